import PyProof.Rows.All
import PyProof.NsCount
import PyProof.CallFns
import PyProof.ForAny
import PyProof.Cells
import PyProof.CompFree
import PyProof.CompTup
import PyProof.DictCompW
import PyProof.DictRoadsH
import PyProof.EnumFor
import PyProof.EnumStmt
import PyProof.Draws
import PyProof.EnumMake
import PyProof.NeKinds
import PyProof.WalksMore
import PyProof.RangeFor
import PyProof.ReprRoads
import PyProof.Rows.TupAssign
import PyProof.Rows.AttrNodeAny
import PyProof.Rows.Walk
import PyProof.Rows.EqMixed
import Wide.WTab
import OpenK.KCall
import OpenK.KMake
import OpenK.KWalk
import OpenK.KLine
import KE.KxBytes
import KE.BytesMake
import KE.KBytesWalk
import KE.KDflt
import KE.KDictList
import KE.KPar
import Wide.FinOn
import Lean
import PySem.Challenge.RW_og0242_01

section
open PySem PySem.W PySem.Calls PyProof.Rows
set_option Elab.async false
set_option linter.unusedVariables false
set_option genSizeOf false
set_option genInjectivity false
namespace Og

/-- the program's own words: texts and names stand by their number -/
def words : List Str := ["index", "special", "dynamic", "cells", "mixed", "fore", "back", "changes", "rows", "known", "icon", "window", "stack", "turned", "links", "titles", "aside"]
theorem words_nodup : words.Nodup := by decide +kernel
theorem words_inj {i j : Nat} {x : Str} (a : words[i]? = some x) (b : words[j]? = some x) : i = j :=
  (List.getElem?_inj (List.getElem?_eq_some_iff.mp a).1 words_nodup).mp (a.trans b.symm)

/-- plain atoms -/
inductive At where
  | none
  | bool (b : Bool)
  | int (z : Int)
  | str (j : Nat)
  | bytes (b : List UInt8)
  deriving DecidableEq
/-- abstract values: atoms, tuples of atoms, tuples of these, a number and a tuple, by value; lists, dicts, instances by their place in the ledger; the script -/
inductive AV where
  | at (a : At)
  | tup (xs : List At)
  | tab (xss : List (List At))
  | two (z : Int) (xs : List At)
  | obj (i : Nat)
  | ints (ns : List Int)
inductive AObj where
  | list (xs : List AV)
  | sdict (es : List (Nat × AV))
  | dict (b : Bool) (es : List (List At × Int))
  | attrs (es : List (Nat × AV))
  | inst (C : Addr) (d : Nat)
abbrev Led := List AObj
abbrev Loc := List (Option AV)

structure Cf where
  prog : Program
  w : World
  s₀ : Shared
  sys : ∃ o, s₀.heap.get? sysModules = some o
abbrev Cf.m (c : Cf) : Model := model c.prog c.w
abbrev Cf.h₀ (c : Cf) : Heap := c.s₀.heap

def IsA (a : At) (v : Value) : Prop := At.casesOn a (v = .none) (fun b => v = .bool b) (fun z => ∃ t, v = .int z t) (fun j => ∃ x t, words[j]? = some x ∧ v = .str x t) (fun b => ∃ t, v = .bytes b.toArray t)
def IsQ {α : Type} (F : α → Value → Prop) (h : Heap) (xs : List α) (v : Value) : Prop := ∃ a items, v = .ref a ∧ h.IsTuple a items ∧ Paired F xs items.toList
abbrev IsT : Heap → List At → Value → Prop := IsQ IsA
def Is (c : Cf) (h : Heap) (rs : List Addr) (x : AV) (v : Value) : Prop := AV.casesOn x (fun a => IsA a v) (fun xs => IsT h xs v) (fun xss => IsQ (IsT h) h xss v)
  (fun z xs => ∃ a t u, v = .ref a ∧ h.IsTuple a #[.int z t, u] ∧ IsT h xs u) (fun i => ∃ a, v = .ref a ∧ rs[i]? = some a) (fun ns => ∃ a vs, v = .ref a ∧ c.h₀.IsList a vs.toArray ∧ IntsAre vs ns)
abbrev IsL (c : Cf) (h : Heap) (rs : List Addr) : List AV → List Value → Prop := Paired (Is c h rs)

theorem Paired.get {α β : Type} {F : α → β → Prop} {xs : List α} {vs : List β} (p : Paired F xs vs) : ∀ {i : Nat} {x : α} {C : Prop}, xs[i]? = some x → (∀ v, vs[i]? = some v → F x v → C) → C := by
  induction p with
  | nil => intro i x C e; cases e
  | cons a _ ih =>
    intro i x C e f
    cases i with
    | zero => cases e; exact f _ rfl a
    | succ i => exact ih e f
theorem Paired.append {α β : Type} {F : α → β → Prop} {xs ys : List α} {vs ws : List β} (p : Paired F xs vs) (q : Paired F ys ws) : Paired F (xs ++ ys) (vs ++ ws) := by
  induction p with
  | nil => exact q
  | cons a _ ih => exact .cons a ih

/-- what a value leans on stays -/
def MonoV (h h' : Heap) (rs rs' : List Addr) : Prop :=
  (∀ a o xs n, h.get? a = some o → o.cls = .type "tuple" → o.data = .seq xs n → h'.get? a = some o) ∧ ∀ (i : Nat) (a : Addr), rs[i]? = some a → rs'[i]? = some a
theorem MonoV.tup {h h' : Heap} {rs rs' : List Addr} (M : MonoV h h' rs rs') {a : Addr} {items : Array Value} (x : h.IsTuple a items) : h'.IsTuple a items :=
  by obtain ⟨o, e, cl, n, d⟩ := x; exact ⟨o, M.1 _ _ _ _ e cl d, cl, n, d⟩
theorem IsQ.mono {α : Type} {F F' : α → Value → Prop} {h h' : Heap} {rs rs' : List Addr} (M : MonoV h h' rs rs') (f : ∀ x v, F x v → F' x v) {xs : List α} {v : Value} (x : IsQ F h xs v) : IsQ F' h' xs v :=
  by obtain ⟨a, items, e, p, q⟩ := x; exact ⟨a, items, e, M.tup p, q.mono f⟩
theorem IsT.mono {h h' : Heap} {rs rs' : List Addr} (M : MonoV h h' rs rs') {xs : List At} {v : Value} (x : IsT h xs v) : IsT h' xs v := IsQ.mono M (fun _ _ z => z) x
theorem Is.mono {c : Cf} {h h' : Heap} {rs rs' : List Addr} (M : MonoV h h' rs rs') {x : AV} {v : Value} (i : Is c h rs x v) : Is c h' rs' x v := by
  cases x with
  | tup xs => exact IsT.mono M i
  | tab xss => exact IsQ.mono M (fun _ _ => IsT.mono M) i
  | two z xs => obtain ⟨a, t, u, e, p, q⟩ := i; exact ⟨a, t, u, e, M.tup p, q.mono M⟩
  | obj j => exact i.elim fun a x => ⟨a, x.1, M.2 _ _ x.2⟩
  | _ => exact i
theorem IsL.mono {c : Cf} {h h' : Heap} {rs rs' : List Addr} (M : MonoV h h' rs rs') {xs : List AV} {vs : List Value} (i : IsL c h rs xs vs) : IsL c h' rs' xs vs := Paired.mono (fun _ _ => Is.mono M) i

theorem eqBool_mixed {prog : Program} {w : World} {x : Str} {t : Tok} {n : Int} {u : Tok} {A : Around} {E : Value → Shared → Prop} {s : Shared} {Q : Bool → Shared → Prop} (h : Q false s) : wpAny (model prog w) A (PySem.eqBool (.str x t) (.int n u)) Q E s ∧ wpAny (model prog w) A (PySem.eqBool (.int n u) (.str x t)) Q E s := by
  unfold eqBool
  exact ⟨wpAny_holding (by rw [if_neg (show ¬ (Value.str x t == Value.int n u) = true from Bool.false_ne_true)]; exact wpAny_bind (EqMixed.eq_str_int (wpAny_truthy_bool h))),
    wpAny_holding (by rw [if_neg (show ¬ (Value.int n u == Value.str x t) = true from Bool.false_ne_true)]; exact wpAny_bind (EqMixed.eq_int_str (wpAny_truthy_bool h)))⟩
theorem words_eq {i j : Nat} {x y : Str} (p : words[i]? = some x) (q : words[j]? = some y) : x = y ↔ i = j :=
  ⟨fun e => words_inj p (e ▸ q), fun e => Option.some.inj ((e ▸ p).symm.trans q)⟩
/-- two kinds of keys: words and numbers; bytes -/
def ofKind (b : Bool) (a : At) : Bool := At.casesOn a false (fun _ => false) (fun _ => !b) (fun _ => !b) (fun _ => b)
theorem eqA {prog : Program} {w : World} {A : Around} {E : Value → Shared → Prop} {s : Shared} {b : Bool} {x y : At} {u v : Value} {Q : Bool → Shared → Prop} (kx : ofKind b x = true) (ky : ofKind b y = true) (ix : IsA x u) (iy : IsA y v) (q : Q (decide (x = y)) s) : wpAny (model prog w) A (PySem.eqBool u v) Q E s := by
  cases x with
  | none => cases kx
  | bool _ => cases kx
  | int n =>
    obtain ⟨t, rfl⟩ := ix
    cases y with
    | none => cases ky
    | bool _ => cases ky
    | int m => obtain ⟨r, rfl⟩ := iy; exact wpAny_eqBool_int (by rwa [show (n == m) = decide (At.int n = At.int m) from decide_eq_decide.mpr ⟨congrArg _, fun e => by cases e; rfl⟩])
    | str j => obtain ⟨y, r, _, rfl⟩ := iy; exact (eqBool_mixed q).2
    | bytes _ => cases b; · cases ky
                 · cases kx
  | str i =>
    obtain ⟨x, t, p, rfl⟩ := ix
    cases y with
    | none => cases ky
    | bool _ => cases ky
    | int m => obtain ⟨r, rfl⟩ := iy; exact (eqBool_mixed q).1
    | str j => obtain ⟨y, r, p', rfl⟩ := iy; exact wpAny_eqBool_str (by rwa [show decide (x = y) = decide (At.str i = At.str j) from decide_eq_decide.mpr ((words_eq p p').trans ⟨congrArg _, fun e => by cases e; rfl⟩)])
    | bytes _ => cases b; · cases ky
                 · cases kx
  | bytes x =>
    obtain ⟨t, rfl⟩ := ix
    cases y with
    | bytes y => obtain ⟨r, rfl⟩ := iy; exact eqBool_bytes (by rwa [show decide (x.toArray.toList = y.toArray.toList) = decide (At.bytes x = At.bytes y) from decide_eq_decide.mpr ⟨congrArg _, fun e => by cases e; rfl⟩])
    | none => cases ky
    | bool _ => cases ky
    | _ => cases b; · cases kx
           · cases ky
def code (v : Value) : At := match v with
  | .bool b => .bool b
  | .int z _ => .int z
  | .str x _ => .str (words.idxOf x)
  | .bytes b _ => .bytes b.toList
  | _ => .none
theorem code_is {x : At} {v : Value} (i : IsA x v) : code v = x := by
  cases x with
  | none => cases i; rfl
  | bool b => cases i; rfl
  | int z => obtain ⟨t, rfl⟩ := i; rfl
  | str j => obtain ⟨x, t, e, rfl⟩ := i; obtain ⟨h, e⟩ := List.getElem?_eq_some_iff.mp e; exact congrArg At.str (e ▸ words_nodup.idxOf_getElem j h)
  | bytes b => obtain ⟨t, rfl⟩ := i; rfl
noncomputable def isK (b : Bool) (k : At) (v : Value) : Bool := @decide (ofKind b k = true ∧ IsA k v) (Classical.propDecidable _)
theorem isK_iff {b : Bool} {k : At} {v : Value} : isK b k v = true ↔ ofKind b k = true ∧ IsA k v := @decide_eq_true_iff _ (Classical.propDecidable _)
noncomputable def kd (c : Cf) (b : Bool) : KeyKind c.prog c.w At where
  is := isK b
  hash k := At.casesOn k 0 (fun _ => 0) hashInt (fun j => hashStr c.w (words.getD j "")) (bytesKind c.prog c.w).hash
  inj v x y p q := (code_is (isK_iff.mp p).2).symm.trans (code_is (isK_iff.mp q).2)
  byValue k v h := by
    have i := (isK_iff.mp h).2
    cases k with
    | none => cases i; rfl
    | bool b => cases i; rfl
    | int z => obtain ⟨t, rfl⟩ := i; rfl
    | str j => obtain ⟨x, t, e, rfl⟩ := i; rfl
    | bytes b => obtain ⟨t, rfl⟩ := i; rfl
  pyHash := fun {A E s k v Q} h q => by
    obtain ⟨k1, i⟩ := isK_iff.mp h
    cases k with
    | none => cases k1
    | bool b => cases k1
    | int z => obtain ⟨t, rfl⟩ := i; exact wpAny_pyHash_int q
    | str j => obtain ⟨x, t, e, rfl⟩ := i; exact wpAny_pyHash_str (by rwa [show x = words.getD j "" by rw [List.getD_eq_getElem?_getD, e]; rfl])
    | bytes b => obtain ⟨t, rfl⟩ := i; exact (bytesKind c.prog c.w).pyHash (k := b) (beq_self_eq_true _) q
  eqBool p q := eqA (isK_iff.mp p).1 (isK_iff.mp q).1 (isK_iff.mp p).2 (isK_iff.mp q).2
  «strs» k x t v h := by
    obtain ⟨k1, i⟩ := isK_iff.mp h
    cases k with
    | str j =>
      obtain ⟨y, u, e, z⟩ := i
      cases z
      rw [Bool.eq_iff_iff, isK_iff]
      refine ⟨fun ⟨_, y, u, e', z⟩ => ?_, fun z => ⟨k1, x, ?_⟩⟩
      · cases e.symm.trans e'; rw [z]; exact beq_self_eq_true _
      · cases v with
        | str y u => exact ⟨u, e, by rw [beq_iff_eq.mp z]⟩
        | _ => cases z
    | none => cases i
    | bool b => cases i
    | int z => obtain ⟨t, e⟩ := i; cases e
    | bytes b => obtain ⟨t, e⟩ := i; cases e
theorem key_is {c : Cf} {b : Bool} {h : Heap} {xs : List At} {v : Value} {C : Prop} (k : xs.all (ofKind b) = true) (i : IsT h xs v) (f : ∀ a, v = .ref a → IsTupleKey (kd c b) h xs a → C) : C := by
  obtain ⟨a, items, e, ⟨o, g, cl, n, d⟩, p⟩ := i
  refine f a e ⟨o, items, n, g, cl, d, ?_⟩
  clear d e g cl f
  revert p
  generalize items.toList = l
  intro p
  induction p with
  | nil => exact .nil
  | cons i _ ih =>
    rw [List.all_cons, Bool.and_eq_true] at k
    exact .cons (isK_iff.mpr ⟨k.1, i⟩) (ih k.2)

def ogo {α : Type} (o : Option α) (K : α → Prop) : Prop := Option.casesOn o False K
theorem ogo_el {α : Type} {o : Option α} {K : α → Prop} {C : Prop} (h : ogo o K) (f : ∀ v, o = some v → K v → C) : C := by
  cases o with
  | none => exact h.elim
  | some v => exact f v rfl h
/-- the first entry with this key -/
def look {κ ν : Type} [DecidableEq κ] (es : List (κ × ν)) (k : κ) : Option (κ × ν) := es.find? fun e => decide (e.1 = k)
structure AttrsAre (c : Cf) (h : Heap) (rs : List Addr) (es : List (Nat × AV)) (m : Str → Option Value) : Prop where
  hit : ∀ i x e, words[i]? = some x → look es i = some e → ∃ v, m x = some v ∧ Is c h rs e.2 v
  miss : ∀ i x, words[i]? = some x → look es i = none → m x = none
  within : Within m words
abbrev SEnt (c : Cf) (h : Heap) (rs : List Addr) (e : Nat × AV) (kv : Str × Value) : Prop := words[e.1]? = some kv.1 ∧ Is c h rs e.2 kv.2
abbrev HEnt (e : List At × Int) (kv : List At × Addr × Value) : Prop := e.1 = kv.1 ∧ IsA (.int e.2) kv.2.2

def ObjIs (c : Cf) (h : Heap) (rs : List Addr) (ao : AObj) (a : Addr) : Prop := AObj.casesOn ao (fun xs => ∃ items n, h.get? a = some (PySem.W.listOf items n) ∧ IsL c h rs xs items.toList)
  (fun es => ∃ kvs, h.DictOf (strKind c.prog c.w) a kvs ∧ Paired (SEnt c h rs) es kvs) (fun b es => ∃ kvs, h.DictOfH (tupleKind (kd c b)) a kvs ∧ Paired HEnt es kvs)
  (fun es => ∃ m, h.Ns1 a m ∧ AttrsAre c h rs es m) (fun C d => ∃ da, rs[d]? = some da ∧ h.get? a = some (instObj C da))
structure Rep (c : Cf) (rs : List Addr) (led : Led) (h : Heap) : Prop where
  keep : ∀ b o, c.h₀.get? b = some o → h.get? b = some o
  len : rs.length = led.length
  obj : ∀ (i : Nat) (a : Addr) (ao : AObj), rs[i]? = some a → led[i]? = some ao → ObjIs c h rs ao a
  nodup : rs.Nodup
  new : ∀ a ∈ rs, c.h₀.get? a = none
/-- a state and what it stands for -/
structure Sit (c : Cf) where
  rs : List Addr
  led : Led
  h : Heap
  tk : Nat
  rep : Rep c rs led h
abbrev Sit.s {c : Cf} (S : Sit c) : Shared := { c.s₀ with heap := S.h, toks := S.tk }
abbrev Sit.Is {c : Cf} (S : Sit c) : AV → Value → Prop := Og.Is c S.h S.rs
abbrev Sit.IsL {c : Cf} (S : Sit c) : List AV → List Value → Prop := Paired (Og.Is c S.h S.rs)

theorem ObjIs.at {c : Cf} {h : Heap} {rs : List Addr} {ao : AObj} {a : Addr} (x : ObjIs c h rs ao a) : ∃ o, h.get? a = some o ∧ ∀ xs n, o.cls = .type "tuple" → o.data = .seq xs n → False := by
  cases ao with
  | list xs => obtain ⟨items, n, e, _⟩ := x; exact ⟨_, e, fun _ _ z _ => absurd (show Value.type "list" = Value.type "tuple" from z) (by decide)⟩
  | sdict es => obtain ⟨kvs, ⟨o, es', ep, e, _, d, _⟩, _⟩ := x; exact ⟨_, e, fun _ _ _ z => by rw [d] at z; cases z⟩
  | dict b es => obtain ⟨kvs, ⟨o, es', ep, e, _, d, _⟩, _⟩ := x; exact ⟨_, e, fun _ _ _ z => by rw [d] at z; cases z⟩
  | attrs es => obtain ⟨m, ⟨o, es', ep, e, d, _⟩, _⟩ := x; exact ⟨_, e, fun _ _ _ z => by rw [d] at z; cases z⟩
  | inst C d => obtain ⟨da, _, e⟩ := x; exact ⟨_, e, fun _ _ z _ => by cases z⟩
section
variable {c : Cf} {h h' : Heap} {rs rs' : List Addr} {led led' : Led} {a : Addr}
theorem Rep.mem (R : Rep c rs led h) (m : a ∈ rs) : ∃ o, h.get? a = some o ∧ ∀ xs n, o.cls = .type "tuple" → o.data = .seq xs n → False := by
  obtain ⟨i, e⟩ := List.mem_iff_getElem?.mp m
  exact (R.obj i a _ e (List.getElem?_eq_getElem (R.len ▸ (List.getElem?_eq_some_iff.mp e).1))).at
theorem Rep.sys (R : Rep c rs led h) {i : Nat} (e : rs[i]? = some a) : (a == sysModules) = false := beq_eq_false_iff_ne.mpr fun z => c.sys.elim fun o q => by
  rw [← z, R.new a (List.mem_of_getElem? e)] at q; cases q
theorem size_none (h : Heap) : h.get? h.objs.size = none := by
  cases q : h.get? h.objs.size with
  | none => rfl
  | some o => exact absurd (Heap.lt_size q) (Nat.lt_irrefl _)
theorem get_app {α : Type} {l m : List α} {i : Nat} {x : α} (e : l[i]? = some x) : (l ++ m)[i]? = some x := (List.getElem?_append_left (List.getElem?_eq_some_iff.mp e).1).trans e

theorem tupKey_mono {K : Type} [DecidableEq K] {prog : Program} {w : World} {knd : KeyKind prog w K} (M : MonoV h h' rs rs') {ks : List K} {a : Addr} (x : IsTupleKey knd h ks a) : IsTupleKey knd h' ks a :=
  by obtain ⟨o, items, n, ho, hc, hd, r⟩ := x; exact ⟨o, items, n, M.1 _ _ _ _ ho hc hd, hc, hd, r⟩
theorem dictOfH_mono {prog : Program} {w : World} {knd : KeyKind prog w At} (M : MonoV h h' rs rs') {d : Addr} {xs : List (List At × Addr × Value)} (hd : ∀ o, h.get? d = some o → h'.get? d = some o)
    (x : h.DictOfH (tupleKind knd) d xs) : h'.DictOfH (tupleKind knd) d xs :=
  by obtain ⟨o, es, ep, ho, r⟩ := x; exact ⟨o, es, ep, hd _ ho, r.1, r.2.1, r.2.2.1, fun y hy => tupKey_mono M (r.2.2.2.1 y hy), r.2.2.2.2⟩
theorem AttrsAre.mono (M : MonoV h h' rs rs') {es : List (Nat × AV)} {m : Str → Option Value} (x : AttrsAre c h rs es m) : AttrsAre c h' rs' es m :=
  ⟨fun i n e a b => (x.hit i n e a b).imp fun v z => ⟨z.1, z.2.mono M⟩, x.miss, x.within⟩
theorem sent_mono (M : MonoV h h' rs rs') {es : List (Nat × AV)} {kvs : List (Str × Value)} (i : Paired (SEnt c h rs) es kvs) : Paired (SEnt c h' rs') es kvs := Paired.mono (fun _ _ z => ⟨z.1, z.2.mono M⟩) i
theorem ObjIs.mono (M : MonoV h h' rs rs') {ao : AObj} (hd : ∀ o, h.get? a = some o → h'.get? a = some o) (x : ObjIs c h rs ao a) : ObjIs c h' rs' ao a := by
  cases ao with
  | list xs => obtain ⟨items, n, e, i⟩ := x; exact ⟨items, n, hd _ e, i.mono M⟩
  | sdict es => obtain ⟨kvs, ⟨o, es', ep, e, r⟩, i⟩ := x; exact ⟨kvs, ⟨o, es', ep, hd _ e, r⟩, sent_mono M i⟩
  | dict b es => exact x.elim fun kvs x => ⟨kvs, dictOfH_mono M hd x.1, x.2⟩
  | attrs es => exact x.elim fun m x => ⟨m, x.1.at hd, x.2.mono M⟩
  | inst C d => exact x.elim fun da x => ⟨da, M.2 _ _ x.1, hd _ x.2⟩

/-- what stands outside X stays -/
def Kp (X : Addr → Prop) (h h' : Heap) : Prop := ∀ b o, h.get? b = some o → ¬ X b → h'.get? b = some o
def Ext (h h' : Heap) : Prop := ∀ b o, h.get? b = some o → h'.get? b = some o
theorem Ext.mv (k : Ext h h') : MonoV h h' rs rs := ⟨fun b o _ _ e _ _ => k b o e, fun _ _ e => e⟩
theorem ext_push {h : Heap} {o : Obj} : Ext h (h.push o) := fun _ _ e => Heap.get?_push_of_some _ e
theorem ext_of {h h' : Heap} (k : Heap.ExtBut h.objs.size h h') : Ext h h' := fun b o e => k b o (Nat.ne_of_lt (Heap.lt_size e)) e
/-- X touches no tuple -/
def NoTup (h : Heap) (X : Addr → Prop) : Prop := ∀ a o xs n, h.get? a = some o → o.cls = .type "tuple" → o.data = .seq xs n → ¬ X a
/-- nothing of the ledger is touched -/
theorem Rep.but (R : Rep c rs led h) {X : Addr → Prop} (k : Kp X h h') (hx : ∀ b, X b → b ∉ rs ∧ c.h₀.get? b = none) (t : NoTup h X) : Rep c rs led h' :=
  ⟨fun b o e => k _ _ (R.keep b o e) fun x => (by rw [(hx b x).2] at e; cases e), R.len, fun i a ao e1 e2 => (R.obj i a ao e1 e2).mono ⟨fun a o xs n e c d => k a o e (t a o xs n e c d), fun i a e => e⟩ fun o e => k a o e fun x => (hx a x).1 (List.mem_of_getElem? e1), R.nodup, R.new⟩
theorem Rep.all (R : Rep c rs led h) (k : Ext h h') : Rep c rs led h' := R.but (X := fun _ => False) (fun b o e _ => k b o e) (fun _ x => x.elim) fun _ _ _ _ _ _ _ x => x
theorem Rep.new' (R : Rep c rs led h) (hn : h.get? a = none) : c.h₀.get? a = none := by
  cases q : c.h₀.get? a with
  | none => rfl
  | some o => rw [R.keep _ _ q] at hn; cases hn
/-- one more object -/
theorem Rep.grow (R : Rep c rs led h) {ao : AObj} (k : Ext h h') (hn : h.get? a = none) (x : ObjIs c h' (rs ++ [a]) ao a) : Rep c (rs ++ [a]) (led ++ [ao]) h' := by
  refine ⟨fun b o e => k _ _ (R.keep b o e), by rw [List.length_append, List.length_append, R.len]; rfl, fun i b bo e1 e2 => ?_, List.nodup_append.mpr ⟨R.nodup, List.nodup_cons.mpr ⟨fun z => (nomatch z), List.nodup_nil⟩, fun x hx y hy => ?_⟩, fun b m => (List.mem_append.mp m).elim (R.new b) fun m => List.mem_singleton.mp m ▸ R.new' hn⟩
  · by_cases hi : i < rs.length
    · rw [List.getElem?_append_left hi] at e1
      rw [List.getElem?_append_left (R.len ▸ hi)] at e2
      exact (R.obj i b bo e1 e2).mono ⟨fun b o _ _ e _ _ => k b o e, fun i a e => get_app e⟩ (k b)
    · rw [List.getElem?_append_right (Nat.not_lt.mp hi)] at e1
      rw [List.getElem?_append_right (R.len ▸ Nat.not_lt.mp hi), ← R.len] at e2
      cases q : i - rs.length with
      | zero => rw [q] at e1 e2; cases e1; cases e2; exact x
      | succ j => rw [q] at e1; cases e1
  · rw [List.mem_singleton] at hy
    rintro rfl
    exact (R.mem hx).elim fun o e => by rw [hy, hn] at e; cases e.1
theorem grow_at (R : Rep c rs led h) : (rs ++ [a])[led.length]? = some a := by rw [← R.len, List.getElem?_append_right (Nat.le_refl _), Nat.sub_self]; rfl
/-- one object is another one now -/
def KpA (a : Addr) (h h' : Heap) : Prop := ∀ b o, b ≠ a → h.get? b = some o → h'.get? b = some o
theorem kpA (hs : Heap.SameBut a h h') : KpA a h h' := fun b o ne q => (hs.2 b ne).trans q
theorem Rep.mvS (R : Rep c rs led h) {i : Nat} (hi : rs[i]? = some a) (k : KpA a h h') : MonoV h h' rs rs :=
  ⟨fun b o xs n e c d => k b o (fun z => (R.mem (List.mem_of_getElem? hi)).elim fun o' q => by rw [← z, e] at q; cases q.1; exact q.2 _ _ c d) e, fun _ _ e => e⟩
theorem Rep.set (R : Rep c rs led h) {i : Nat} {ao : AObj} (hi : rs[i]? = some a) (k : KpA a h h') (x : ObjIs c h' rs ao a) : Rep c rs (led.set i ao) h' := by
  refine ⟨fun b o e => k b o (fun z => ?_) (R.keep b o e), (List.length_set ..).symm ▸ R.len, fun j b bo e1 e2 => ?_, R.nodup, R.new⟩
  · rw [z, R.new _ (List.mem_of_getElem? hi)] at e; cases e
  · by_cases hj : i = j
    · rw [← hj] at e1 e2
      rw [hi] at e1
      rw [List.getElem?_set_self (R.len ▸ (List.getElem?_eq_some_iff.mp hi).1)] at e2
      cases e1; cases e2; exact x
    · rw [List.getElem?_set_ne hj] at e2
      exact (R.obj j b bo e1 e2).mono (R.mvS hi k) fun o e => k b o (fun z => hj ((List.getElem?_inj (List.getElem?_eq_some_iff.mp hi).1 R.nodup).mp (hi.trans (z ▸ e1).symm))) e
end

/-- a step: the ledger grows, what stands outside it and X stays -/
structure Le {c : Cf} (X : Addr → Prop) (S S' : Sit c) : Prop where
  fresh : ∀ a, a ∈ S'.rs → a ∉ S.rs → S.h.get? a = none
  kp : ∀ b o, S.h.get? b = some o → b ∉ S.rs → ¬ X b → S'.h.get? b = some o
  dom : ∀ b, S'.h.get? b = none → S.h.get? b = none
  mv : MonoV S.h S'.h S.rs S'.rs
def noX (_ : Addr) : Prop := False
section
variable {c : Cf} {S S1 S2 : Sit c} {X : Addr → Prop} {h' : Heap} {tk : Nat} {a : Addr}
theorem Le.trans (p : Le X S S1) (q : Le X S1 S2) : Le X S S2 :=
  ⟨fun a m n => (Classical.em (a ∈ S1.rs)).elim (fun z => p.fresh a z n) fun z => p.dom a (q.fresh a m z),
   fun b o e n x => q.kp b o (p.kp b o e n x) (fun m => by rw [p.fresh b m n] at e; cases e) x, fun b e => p.dom b (q.dom b e),
   fun a o xs n e c d => q.mv.1 a o xs n (p.mv.1 a o xs n e c d) c d, fun i a e => q.mv.2 i a (p.mv.2 i a e)⟩
theorem Le.to (p : Le noX S S1) : Le X S S1 := ⟨p.fresh, fun b o e n _ => p.kp b o e n id, p.dom, p.mv⟩
abbrev Sit.ext (S : Sit c) (k : Ext S.h h') (tk : Nat) : Sit c := ⟨S.rs, S.led, h', tk, S.rep.all k⟩
abbrev Sit.tok (S : Sit c) (tk : Nat) : Sit c := ⟨S.rs, S.led, S.h, tk, S.rep⟩
abbrev Sit.grow (S : Sit c) {ao : AObj} (k : Ext S.h h') (hn : S.h.get? a = none) (x : ObjIs c h' (S.rs ++ [a]) ao a) (tk : Nat) : Sit c := ⟨S.rs ++ [a], S.led ++ [ao], h', tk, S.rep.grow k hn x⟩
abbrev Sit.set (S : Sit c) {i : Nat} {ao : AObj} (hi : S.rs[i]? = some a) (k : KpA a S.h h') (x : ObjIs c h' S.rs ao a) (tk : Nat) : Sit c := ⟨S.rs, S.led.set i ao, h', tk, S.rep.set hi k x⟩
theorem dom_ext {h h' : Heap} (k : Ext h h') : ∀ b, h'.get? b = none → h.get? b = none := fun b e => by
  cases q : h.get? b with
  | none => rfl
  | some o => rw [k b o q] at e; cases e
theorem Le.ext (k : Ext S.h h') (tk : Nat) : Le noX S (S.ext k tk) := ⟨fun _ m n => (n m).elim, fun b o e _ _ => k b o e, dom_ext k, k.mv⟩
theorem Le.tok (tk : Nat) : Le noX S (S.tok tk) := Le.ext (fun _ _ e => e) tk
theorem Le.grow {ao : AObj} (k : Ext S.h h') (hn : S.h.get? a = none) (x : ObjIs c h' (S.rs ++ [a]) ao a) (tk : Nat) : Le noX S (S.grow k hn x tk) :=
  ⟨fun b m n => (List.mem_append.mp m).elim (fun z => (n z).elim) fun z => List.mem_singleton.mp z ▸ hn, fun b o e _ _ => k b o e, dom_ext k, fun b o _ _ e _ _ => k b o e, fun i a e => get_app e⟩
theorem Le.set {i : Nat} {ao : AObj} (hi : S.rs[i]? = some a) (k : KpA a S.h h') (x : ObjIs c h' S.rs ao a) (tk : Nat) : Le noX S (S.set hi k x tk) :=
  ⟨fun _ m n => (n m).elim, fun b o e n _ => k b o (fun z => n (z ▸ List.mem_of_getElem? hi)) e, fun b e => (Classical.em (b = a)).elim (fun z => x.at.elim fun o q => by rw [z, q.1] at e; cases e) fun z => by {
    cases q : S.h.get? b with
    | none => rfl
    | some o => rw [k b o z q] at e; cases e }, S.rep.mvS hi k⟩
end
end Og
end

section
open PySem PySem.W PySem.Calls PyProof.Rows
set_option Elab.async false
set_option linter.unusedVariables false
set_option genSizeOf false
set_option genInjectivity false
namespace Og

/-- the room that is left: n more levels -/
structure Room (n : Nat) (A : Around) : Prop where
  handled : A.handled = none
  guards : A.guards = some []
  depth : A.depth + 4 * n < 1000
  units : A.units + 16 * n + 16 < 9900
theorem room_less {a n k m : Nat} {b : Nat} (hk : k ≤ b) (h : a + b * (n + 1) < m) : a + k + b * n < m :=
  Nat.lt_of_le_of_lt (by rw [Nat.mul_succ, Nat.add_assoc, Nat.add_comm k]; exact Nat.add_le_add_left (Nat.add_le_add_left hk _) _) h
theorem Room.sub {n d u : Nat} {A B : Around} (R : Room (n + 1) A) (hd : d ≤ 4) (hu : u ≤ 16) (e1 : B.handled = A.handled) (e2 : B.guards = A.guards) (e3 : B.depth = A.depth + d) (e4 : B.units = A.units + u) : Room n B :=
  ⟨e1.trans R.handled, e2.trans R.guards, e3 ▸ room_less hd R.depth, e4 ▸ (room_less (m := 9884) hu (Nat.lt_of_add_lt_add_right (n := 16) (m := 9884) R.units) |> Nat.add_lt_add_right (k := 16))⟩
theorem Room.in1 {n : Nat} {A : Around} (R : Room (n + 1) A) : Room n A.in1 := R.sub (d := 0) (u := 1) (by decide) (by decide) rfl rfl rfl rfl
theorem Room.deeper {n : Nat} {A : Around} {env : Env} (R : Room (n + 1) A) : Room n (A.deeper env) := R.sub (d := 1) (u := 3) (by decide) (by decide) rfl rfl rfl rfl
theorem Room.make {n : Nat} {A : Around} {C : Addr} {vals : List Value} (R : Room (n + 1) A) : Room n (A.under (.builtin "type.__call__" ⟨.ref C :: vals, []⟩)) := R.sub (d := 1) (u := 1) (by decide) (by decide) rfl (by show pushGuards [] A.guards = _; rw [R.guards]; rfl) rfl rfl
theorem Room.u {n : Nat} {A : Around} (R : Room n A) : A.units + 16 < cLine := Nat.lt_of_le_of_lt (Nat.add_le_add_right (Nat.le_add_right _ _) _) R.units
theorem Room.u1 {n : Nat} {A : Around} (R : Room n A) {k : Nat} (hk : k ≤ 16) : A.units + k < cLine := Nat.lt_of_le_of_lt (Nat.add_le_add_left hk _) R.u
theorem Room.d {n : Nat} {A : Around} (R : Room n A) : A.depth < recursionLimit := Nat.lt_of_le_of_lt (Nat.le_add_right _ _) R.depth

structure Bs (c : Cf) (K : Frag) (mg mb : Str → Option Value) : Prop where
  K : K.In c.h₀
  g : c.h₀.Ns mainGlobals mg
  b : c.h₀.Ns builtinsNs mb
  lim : c.h₀.NoLimit
structure Ctx where
  scope : Scope
  slots : List Str
def Held (env : Env) (m : Str → Option Value) (h : Heap) (x : Str) (v : Value) : Prop :=
  (env.kindOf x = some .local ∧ m x = some v) ∨ ((env.kindOf x = some .cell ∨ env.kindOf x = some .free) ∧ ∃ a, env.cells.lookup x = some a ∧ h.IsCell a (some v))
/-- the frame's own objects -/
def FrX (env : Env) (b : Addr) : Prop := b = env.locals ∨ ∃ x, env.cells.lookup x = some b
structure EnvOk (c : Cf) (cx : Ctx) (env : Env) : Prop where
  scope : env.scope = cx.scope
  kind : cx.scope.kind = .function
  globals : env.globals = mainGlobals
  builtins : env.builtins = builtinsNs
  new : ∀ b, FrX env b → c.h₀.get? b = none
  ne : ∀ x a, env.cells.lookup x = some a → a ≠ env.locals
  apart : ∀ x y a, env.cells.lookup x = some a → env.cells.lookup y = some a → x = y
  has : ∀ x, cx.scope.names.lookup x = some .cell → ∃ a, env.cells.lookup x = some a
structure FrameIs {c : Cf} (cx : Ctx) (S : Sit c) (loc : Loc) (env : Env) : Prop where
  eo : EnvOk c cx env
  out : ∀ b, FrX env b → b ∉ S.rs
  cells : ∀ x a, env.cells.lookup x = some a → ∃ v, S.h.IsCell a v
  ns : ∃ m, S.h.Ns env.locals m ∧ ∀ (i : Nat) (x : Str) (av : AV), cx.slots[i]? = some x → loc[i]? = some (some av) → ∃ v, S.Is av v ∧ Held env m S.h x v

def Run {c : Cf} {α β : Type} (n : Nat) (X : Addr → Prop) (rel : Sit c → β → α → Prop) (S : Sit c) (t : Sem α) (res : (β → Led → Prop) → Prop) : Prop :=
  ∀ {A E Q K}, Room n A → res K → (∀ S' r v, Le X S S' → K r S'.led → rel S' r v → Q v S'.s) → wpAny c.m A t Q E S.s
/-- read alone: the heap stays -/
def QRun {c : Cf} (n : Nat) (S : Sit c) (t : Sem Value) (res : (AV → Led → Prop) → Prop) : Prop :=
  ∀ {A E Q K}, Room n A → res K → (∀ r v tk, K r S.led → S.Is r v → Q v (S.tok tk).s) → wpAny c.m A t Q E S.s
abbrev relV {c : Cf} (S : Sit c) (r : AV) (v : Value) : Prop := S.Is r v
abbrev relL {c : Cf} (S : Sit c) (r : List AV) (v : List Value) : Prop := S.IsL r v
abbrev relB {c : Cf} (_ : Sit c) (r : Bool) (v : Bool) : Prop := v = r
abbrev relU {c : Cf} (_ : Sit c) (_ : Unit) (_ : Unit) : Prop := True
abbrev KV := AV → Led → Prop
abbrev XE := Loc → Led → KV → Prop
abbrev XT := Loc → Led → (Bool → Led → Prop) → Prop
abbrev XL := Loc → Led → (List AV → Led → Prop) → Prop
abbrev F1 := AV → Led → KV → Prop
abbrev F2 := AV → AV → Led → KV → Prop
abbrev FL := List AV → Led → KV → Prop
section
variable (c : Cf) (n : Nat) (cx : Ctx)
def Ok (e : Expr) (x : XE) : Prop := ∀ (S : Sit c) loc env, FrameIs cx S loc env → Run n noX relV S (eval e env) (x loc S.led)
def OkQ (e : Expr) (x : XE) : Prop := ∀ (S : Sit c) loc env, FrameIs cx S loc env → QRun n S (eval e env) (x loc S.led)
def OkT (e : Expr) (x : XT) : Prop := ∀ (S : Sit c) loc env, FrameIs cx S loc env → Run n noX relB S (isTrue e env (eval e env)) (x loc S.led)
def OkL (es : List Expr) (x : XL) : Prop := ∀ pos (S : Sit c) loc env, FrameIs cx S loc env → Run n noX relL S (spliced (backTo pos (starEach es env))) (x loc S.led)
def Ok1 (t : Value → Sem Value) (f : F1) : Prop := ∀ (S : Sit c) a va, S.Is a va → Run n noX relV S (t va) (f a S.led)
def Ok2 (t : Value → Value → Sem Value) (f : F2) : Prop := ∀ (S : Sit c) a b va vb, S.Is a va → S.Is b vb → Run n noX relV S (t va vb) (f a b S.led)
def Qt2 (t : Value → Value → Sem Value) (f : F2) : Prop := ∀ (S : Sit c) a b va vb, S.Is a va → S.Is b vb → QRun n S (t va vb) (f a b S.led)
/-- a callee by its value -/
def OkF (fv : Value) (f : FL) : Prop := ∀ (S : Sit c) as vs, S.IsL as vs → Run n noX relV S (call fv vs) (f as S.led)
end

section
variable {c : Cf} {n : Nat} {cx : Ctx} {X : Addr → Prop} {S S1 : Sit c} {loc : Loc} {env : Env}
theorem QRun.run {t : Sem Value} {res : KV → Prop} (h : QRun n S t res) : Run n noX relV S t res := fun hR e P => h hR e fun r v tk k i => P (S.tok tk) r v (.tok tk) k i
theorem OkQ.ok {e : Expr} {x : XE} (h : OkQ c n cx e x) : Ok c n cx e x := fun S loc env F => QRun.run (h S loc env F)
theorem Qt2.ok {t : Value → Value → Sem Value} {f : F2} (h : Qt2 c n t f) : Ok2 c n t f := fun S a b va vb ia ib => QRun.run (h S a b va vb ia ib)
theorem FrameIs.held (F : FrameIs cx S loc env) (b : Addr) (x : FrX env b) : S.h.get? b ≠ none := fun z => by
  rcases x with rfl | ⟨x, e⟩
  · obtain ⟨m, ⟨o, _, _, e, _⟩, _⟩ := F.ns; rw [z] at e; cases e
  · obtain ⟨v, o, e, _⟩ := F.cells x b e; rw [z] at e; cases e
/-- the frame behind a change of other things -/
theorem FrameIs.leX (F : FrameIs cx S loc env) (fr : ∀ a, a ∈ S1.rs → a ∉ S.rs → S.h.get? a = none) (kp : ∀ b o, S.h.get? b = some o → b ∉ S.rs → ¬ X b → S1.h.get? b = some o) (mv : MonoV S.h S1.h S.rs S1.rs) (hx : ∀ b, FrX env b → ¬ X b) : FrameIs cx S1 loc env := by
  have K : ∀ b, FrX env b → ∀ o, S.h.get? b = some o → S1.h.get? b = some o := fun b x o e => kp b o e (F.out b x) (hx b x)
  have kc : ∀ x b, env.cells.lookup x = some b → ∀ u, S.h.IsCell b u → S1.h.IsCell b u := fun x b e u z => z.imp fun o z => ⟨K b (.inr ⟨x, e⟩) o z.1, z.2⟩
  refine ⟨F.eo, fun b x m => F.held b x (fr b m (F.out b x)), fun x b e => (F.cells x b e).imp fun v z => kc x b e v z, ?_⟩
  obtain ⟨m, ⟨oL, es, ep, hL, rest⟩, hl⟩ := F.ns
  exact ⟨m, ⟨oL, es, ep, K _ (.inl rfl) _ hL, rest⟩, fun i x av p q => (hl i x av p q).imp fun v z => ⟨z.1.mono mv, z.2.imp id fun y => ⟨y.1, y.2.imp fun b w => ⟨w.1, kc x b w.1 _ w.2⟩⟩⟩⟩
theorem FrameIs.le (F : FrameIs cx S loc env) (a : Le noX S S1) : FrameIs cx S1 loc env := F.leX a.fresh a.kp a.mv fun _ _ => id

/-! names and constants -/
def xConst (v : AV) : XE := fun _ led K => K v led
def xVar (i : Nat) : XE := fun loc led K => ogo loc[i]? fun o => ogo o fun v => K v led
def xNo : XE := fun _ _ _ => False
theorem ok_no {e : Expr} : OkQ c n cx e xNo := fun _ _ _ _ _ _ _ _ _ e _ => e.elim
theorem okT_no {e : Expr} : OkT c n cx e (fun _ _ _ => False) := fun _ _ _ _ _ _ _ _ _ e _ => e.elim
theorem q_const {e : Expr} {a : At} (h : ∀ env A E (s : Shared) (Q : Value → Shared → Prop), (∀ v tk, IsA a v → Q v { s with toks := tk }) → wpAny c.m A (eval e env) Q E s) : OkQ c n cx e (xConst (.at a)) :=
  fun S loc env F A E Q K hR e P => h env A E S.s Q fun v tk i => P _ v tk e i
theorem q_int {i : Int} {k : Nat} {pos : Pos} : OkQ c n cx (.Constant (.int i) k pos) (xConst (.at (.int i))) := q_const fun env A E s Q q => wpAny_Constant_int (q _ _ ⟨_, rfl⟩)
theorem q_str {x : Str} (i : Nat) (hi : words[i]? = some x) {k : Nat} {pos : Pos} : OkQ c n cx (.Constant (.str x) k pos) (xConst (.at (.str i))) := q_const fun env A E s Q q => wpAny_mkText (q _ _ ⟨_, _, hi, rfl⟩)
theorem q_bytes {b : List UInt8} {k : Nat} {pos : Pos} : OkQ c n cx (.Constant (.bytes b) k pos) (xConst (.at (.bytes b))) := q_const fun env A E s Q q => Constant_bytes (q _ _ ⟨_, rfl⟩)
theorem q_none {k : Nat} {pos : Pos} : OkQ c n cx (.Constant .none k pos) (xConst (.at .none)) := q_const fun env A E s Q q => wpAny_pure (q _ s.toks rfl)
theorem q_bool {b : Bool} {k : Nat} {pos : Pos} : OkQ c n cx (.Constant (.bool b) k pos) (xConst (.at (.bool b))) := q_const fun env A E s Q q => wpAny_pure (q _ s.toks rfl)
theorem q_var {x : Str} {pos : Pos} (i : Nat) (hi : cx.slots[i]? = some x) (hd : (x == ("__debug__" : Str)) = false) (hc : (x == ("__classdict__" : Str)) = false) : OkQ c n cx (.Name x pos) (xVar i) := fun S loc env F A E Q K hR e P =>
  ogo_el e fun o e1 e => ogo_el e fun av e2 e => by
  have hk : env.scope.kind = .function := by rw [F.eo.scope]; exact F.eo.kind
  obtain ⟨m, ns, hl⟩ := F.ns
  obtain ⟨v, i1, i2⟩ := hl i x av hi (e2 ▸ e1)
  have q := P av v S.tk e i1
  refine wpAny_Name ?_ hd
  rcases i2 with ⟨a, b⟩ | ⟨a | a, d, b, e⟩
  · exact wpAny_loadName_local hk a ns b q
  · exact wpAny_loadName_cell hk a b e q
  · exact wpAny_loadName_free hk a b e q hc
/-- what a global name stands for -/
def NameIs (mg mb : Str → Option Value) (x : Str) (v : Value) : Prop := mg x = some v ∨ (mg x = none ∧ mb x = some v)
theorem name_at {K : Frag} {mg mb : Str → Option Value} (B : Bs c K mg mb) {x : Str} {pos : Pos} {v : Value} {A E} {Q : Value → Shared → Prop} (F : FrameIs cx S loc env)
    (hx : cx.scope.names.lookup x = some .globalImplicit) (hm : NameIs mg mb x v) (hd : (x == ("__debug__" : Str)) = false) (q : Q v S.s) : wpAny c.m A (eval (.Name x pos) env) Q E S.s := by
  have hg : S.h.Ns env.globals mg := by rw [F.eo.globals]; exact B.g.keeps S.rep.keep
  refine Calls.Name_function_global (by rw [F.eo.scope]; exact F.eo.kind) (by show env.scope.names.lookup x = _; rw [F.eo.scope]; exact hx) ?_ hd
  rcases hm with e | ⟨e1, e2⟩
  · exact Calls.loadGlobal_global hg e q
  · exact Calls.loadGlobal_builtin hg e1 (by rw [F.eo.builtins]; exact B.b.keeps S.rep.keep) e2 q
theorem q_glob {K : Frag} {mg mb : Str → Option Value} (B : Bs c K mg mb) {x : Str} {pos : Pos} {v : Value} {av : AV} (hx : cx.scope.names.lookup x = some .globalImplicit) (e : mg x = some v)
    (hv : Is c c.h₀ [] av v) (hd : (x == ("__debug__" : Str)) = false) : OkQ c n cx (.Name x pos) (xConst av) := fun S loc env F A E Q K hR e' P =>
  name_at B F hx (.inl e) hd (P av v S.tk e' (hv.mono ⟨fun a o xs n e _ _ => S.rep.keep a o e, fun _ _ e => by cases e⟩))

/-! readers of values -/
def asA (a : AV) (K : At → Prop) : Prop := AV.casesOn a K (fun _ => False) (fun _ => False) (fun _ _ => False) (fun _ => False) (fun _ => False)
def asT (a : AV) (K : List At → Prop) : Prop := AV.casesOn a (fun _ => False) K (fun _ => False) (fun _ _ => False) (fun _ => False) (fun _ => False)
def asO (a : AV) (K : Nat → Prop) : Prop := AV.casesOn a (fun _ => False) (fun _ => False) (fun _ => False) (fun _ _ => False) K (fun _ => False)
def atB (a : At) (K : Bool → Prop) : Prop := At.casesOn a False K (fun _ => False) (fun _ => False) (fun _ => False)
def atI (a : At) (K : Int → Prop) : Prop := At.casesOn a False (fun _ => False) K (fun _ => False) (fun _ => False)
def atS (a : At) (K : Nat → Prop) : Prop := At.casesOn a False (fun _ => False) (fun _ => False) K (fun _ => False)
def atY (a : At) (K : List UInt8 → Prop) : Prop := At.casesOn a False (fun _ => False) (fun _ => False) (fun _ => False) K
theorem asA_el {a : AV} {K : At → Prop} {C : Prop} (h : asA a K) (f : ∀ x, a = .at x → K x → C) : C := by
  cases a with
  | «at» x => exact f x rfl h
  | _ => exact h.elim
theorem asT_el {a : AV} {K : List At → Prop} {C : Prop} (h : asT a K) (f : ∀ x, a = .tup x → K x → C) : C := by
  cases a with
  | tup x => exact f x rfl h
  | _ => exact h.elim
theorem asO_el {a : AV} {K : Nat → Prop} {C : Prop} (h : asO a K) (f : ∀ x, a = .obj x → K x → C) : C := by
  cases a with
  | obj x => exact f x rfl h
  | _ => exact h.elim
theorem atB_el {a : At} {K : Bool → Prop} {C : Prop} (h : atB a K) (f : ∀ x, a = .bool x → K x → C) : C := by
  cases a with
  | bool x => exact f x rfl h
  | _ => exact h.elim
def asB (a : AV) (K : Bool → Prop) : Prop := asA a fun x => atB x K
theorem asB_el {a : AV} {K : Bool → Prop} {C : Prop} (h : asB a K) (f : ∀ x, a = .at (.bool x) → K x → C) : C := asA_el h fun x e h => atB_el h fun b e' h => f b (e' ▸ e) h

/-! compounds -/
def two (b : Bool) (p q : Prop) : Prop := Bool.casesOn b q p
theorem two_i {b : Bool} {p q : Prop} (h1 : b = true → p) (h2 : b = false → q) : two b p q := by
  cases b
  · exact h2 rfl
  · exact h1 rfl
def x1 (f : F1) (a : XE) : XE := fun loc led K => a loc led fun v l => f v l K
def x2 (f : F2) (a b : XE) : XE := fun loc led K => a loc led fun v l => b loc l fun u l => f v u l K
def xIf (t : XT) (a b : XE) : XE := fun loc led K => t loc led fun v l => two v (a loc l K) (b loc l K)
def asAs (xs : List AV) (K : List At → Prop) : Prop := List.rec (motive := fun _ => (List At → Prop) → Prop) (fun K => K []) (fun a _ ih K => asA a fun x => ih fun r => K (x :: r)) xs K
def small {α : Type} (xs : List α) : Prop := xs.length ≤ 1000
def xTup (a : XL) : XE := fun loc led K => a loc led fun vs l => small vs ∧ asAs vs fun xs => K (.tup xs) l
def xList (a : XL) : XE := fun loc led K => a loc led fun vs l => small vs ∧ K (.obj l.length) (l ++ [.list vs])
def xlNil : XL := fun _ led K => K [] led
def xlCons (a : XE) (b : XL) : XL := fun loc led K => a loc led fun v l => b loc l fun vs l => K (v :: vs) l
def tNot (t : XT) : XT := fun loc led K => t loc led fun b l => K (!b) l
def tAnd (a b : XT) : XT := fun loc led K => a loc led fun v l => two v (b loc l K) (K false l)
def tOr (a b : XT) : XT := fun loc led K => a loc led fun v l => two v (K true l) (b loc l K)
def tVal (a : XE) : XT := fun loc led K => a loc led fun v l => asB v fun b => K b l
def tChain (f g : F2) (a b c : XE) : XT := fun loc led K => a loc led fun u l => b loc l fun v l => f u v l fun r l => asB r fun t => two t (c loc l fun w l => g v w l fun r l => asB r fun t => K t l) (K false l)
def xAnd (a b : XE) : XE := fun loc led K => a loc led fun v l => asB v fun t => two t (b loc l K) (K v l)

theorem bin_any {l r : Expr} {xl xr : XE} {f : F2} {t : Value → Value → Sem Value} {A : Around} {E : Value → Shared → Prop} {Q : Value → Shared → Prop} {K : KV} (hl : Ok c n cx l xl) (hr : Ok c n cx r xr) (hf : Ok2 c n t f) (F : FrameIs cx S loc env) (hR : Room n A)
    (e : x2 f xl xr loc S.led K) (P : ∀ S' r v, Le noX S S' → K r S'.led → S'.Is r v → Q v S'.s) : wpAny c.m A (eval l env) (fun a s1 => wpAny c.m A (eval r env) (fun b s2 => wpAny c.m A (t a b) Q E s2) E s1) E S.s :=
  hl S loc env F hR e fun S1 a va L1 k1 i1 => hr S1 loc env (F.le L1) hR k1 fun S2 b vb L2 k2 i2 => hf S2 a b va vb (i1.mono L2.mv) i2 hR k2 fun S3 r v L3 => P S3 r v (L1.trans (L2.trans L3))
theorem ok_bin {l r : Expr} {op : Operator} {pos : Pos} {xl xr : XE} {f : F2} (hl : Ok c n cx l xl) (hr : Ok c n cx r xr) (hf : Ok2 c n (binaryOp op) f) : Ok c n cx (.BinOp l op r pos) (x2 f xl xr) :=
  fun S loc env F A E Q K hR e P => wpAny_BinOp (bin_any hl hr hf F hR e P)
theorem ok_cmp {l r : Expr} {op : CmpOp} {pos : Pos} {xl xr : XE} {f : F2} (hl : Ok c n cx l xl) (hr : Ok c n cx r xr) (hf : Ok2 c n (compareOp op) f) (hm : behindInMarks op r = false) : Ok c n cx (.Compare l [op] [r] pos) (x2 f xl xr) :=
  fun S loc env F A E Q K hR e P => wpAny_Compare1 (bin_any hl hr hf F hR e P) hm
theorem bool_is {S : Sit c} {a : AV} {v : Value} {b : Bool} (i : S.Is a v) (e : a = .at (.bool b)) : v = .bool b := by rw [e] at i; exact i
theorem truthy_b {a : AV} {v : Value} {A : Around} {E : Value → Shared → Prop} {s : Shared} {Q : Bool → Shared → Prop} {K : Bool → Prop} (i : S.Is a v) (h : asB a K) (q : ∀ b, K b → Q b s) : wpAny c.m A (truthy v) Q E s :=
  asB_el h fun b e k => by rw [bool_is i e]; exact wpAny_truthy_bool (q b k)
theorem okT_cmp {l r : Expr} {op : CmpOp} {pos : Pos} {xl xr : XE} {f : F2} (hl : Ok c n cx l xl) (hr : Ok c n cx r xr) (hf : Ok2 c n (compareOp op) f) (hm : behindInMarks op r = false) : OkT c n cx (.Compare l [op] [r] pos) (tVal (x2 f xl xr)) :=
  fun S loc env F A E Q K hR e P => wpAny_isTrue_Compare1 (bin_any hl hr hf F hR e fun S1 a v L k i => truthy_b i k fun b k => P S1 b b L k rfl) hm
theorem okT_chain {a b d : Expr} {op1 op2 : CmpOp} {pos : Pos} {xa xb xc : XE} {f g : F2} (ha : Ok c n cx a xa) (hb : Ok c n cx b xb) (hc : Ok c n cx d xc) (hf : Ok2 c n (compareOp op1) f) (hg : Ok2 c n (compareOp op2) g)
    (hm : ∀ env, markedEach [op1, op2] [b, d] [eval b env, eval d env] = [eval b env, eval d env]) : OkT c n cx (.Compare a [op1, op2] [b, d] pos) (tChain f g xa xb xc) :=
  fun S loc env F A E Q K hR e P => by
    show wpAny _ _ (do testChain pos (← eval a env) [op1, op2] (markedEach [op1, op2] [b, d] [eval b env, eval d env])) _ _ _
    rw [hm]
    refine wpAny_bind (ha S loc env F hR e fun S1 u v1 L1 k i1 => ?_)
    have F1 := F.le L1
    refine wpAny_bind (wpAny_holding (hb S1 loc env F1 hR k fun S2 w v2 L2 k i2 => wpAny_bind (wpAny_standAt ?_)))
    refine wpAny_bind (wpAny_holding (hf S2 u w v1 v2 (i1.mono L2.mv) i2 hR k fun S3 r v3 L3 k i3 => ?_))
    have L := L1.trans (L2.trans L3)
    refine wpAny_bind (wpAny_release (wpAny_bind (wpAny_holding (truthy_b i3 k fun t k => ?_))))
    cases t with
    | false => exact wpAny_pure (P S3 false false L k rfl)
    | true =>
      show wpAny _ _ (testChain pos v2 [op2] [eval d env]) _ _ _
      refine wpAny_bind (wpAny_holding (hc S3 loc env ((F1.le L2).le L3) hR k fun S4 y v4 L4 k i4 => wpAny_bind (wpAny_standAt ?_)))
      exact wpAny_bind (wpAny_operateT (hg S4 w y v2 v4 ((i2.mono L3.mv).mono L4.mv) i4 hR k fun S5 r v5 L5 k i5 => wpAny_holding (truthy_b i5 k fun t k => P S5 t t (L.trans (L4.trans L5)) k rfl)))
theorem okT_not {e : Expr} {pos : Pos} {t : XT} (h : OkT c n cx e t) : OkT c n cx (.UnaryOp .Not e pos) (tNot t) :=
  fun S loc env F A E Q K hR e P => wpAny_isTrue_Not (h S loc env F hR e fun S1 b v L k i => P S1 (!b) (!v) L k (congrArg _ i))
theorem okT_and {a b : Expr} {pos : Pos} {ta tb : XT} (ha : OkT c n cx a ta) (hb : OkT c n cx b tb) : OkT c n cx (.BoolOp .And [a, b] pos) (tAnd ta tb) :=
  fun S loc env F A E Q K hR e P => wpAny_isTrue_BoolOp (wpAny_bind (ha S loc env F hR e fun S1 t v L k i => by
    cases i
    cases t with
    | false => exact wpAny_pure (P S1 false false L k rfl)
    | true => exact wpAny_bind (hb S1 loc env (F.le L) hR k fun S2 t v L2 k i => by
        cases i
        cases t
        · exact wpAny_pure (P S2 false false (L.trans L2) k rfl)
        · exact wpAny_pure (P S2 true true (L.trans L2) k rfl))))
theorem okT_or {a b : Expr} {pos : Pos} {ta tb : XT} (ha : OkT c n cx a ta) (hb : OkT c n cx b tb) : OkT c n cx (.BoolOp .Or [a, b] pos) (tOr ta tb) :=
  fun S loc env F A E Q K hR e P => wpAny_isTrue_BoolOp (wpAny_bind (ha S loc env F hR e fun S1 t v L k i => by
    cases i
    cases t with
    | true => exact wpAny_pure (P S1 true true L k rfl)
    | false => exact wpAny_bind (hb S1 loc env (F.le L) hR k fun S2 t v L2 k i => by
        cases i
        cases t
        · exact wpAny_pure (P S2 false false (L.trans L2) k rfl)
        · exact wpAny_pure (P S2 true true (L.trans L2) k rfl))))
theorem okT_val {e : Expr} {x : XE} (h : Ok c n cx e x) (he : ∀ env, isTrue e env (eval e env) = (do let v ← eval e env; standAt e.pos; holding [v] (truthy v))) : OkT c n cx e (tVal x) :=
  fun S loc env F A E Q K hR k P => by
    rw [he]
    exact wpAny_bind (h S loc env F hR k fun S1 a v L k i => wpAny_bind (wpAny_standAt (wpAny_holding (truthy_b i k fun b k => P S1 b b L k rfl))))
theorem ok_ifexp {t a b : Expr} {pos : Pos} {xt : XT} {xa xb : XE} (ht : OkT c n cx t xt) (ha : Ok c n cx a xa) (hb : Ok c n cx b xb) : Ok c n cx (.IfExp t a b pos) (xIf xt xa xb) :=
  fun S loc env F A E Q K hR e P => by
    show wpAny _ _ (do if ← isTrue t env (eval t env) then eval a env else eval b env) _ _ _
    refine wpAny_bind (ht S loc env F hR e fun S1 u v L k i => ?_)
    cases i
    cases u with
    | true => exact ha S1 loc env (F.le L) hR k fun S2 r v L2 => P S2 r v (L.trans L2)
    | false => exact hb S1 loc env (F.le L) hR k fun S2 r v L2 => P S2 r v (L.trans L2)
theorem ok_and2 {a b : Expr} {pos : Pos} {xa xb : XE} (ha : Ok c n cx a xa) (hb : Ok c n cx b xb) : Ok c n cx (.BoolOp .And [a, b] pos) (xAnd xa xb) :=
  fun S loc env F A E Q K hR e P => by
    show wpAny _ _ (do let v ← eval a env; standAt pos; let t ← holding [v] (truthy v); match BoolOp.And, t with | .And, false | .Or, true => pure v | _, _ => boolOp pos .And [eval b env]) _ _ _
    refine wpAny_bind (ha S loc env F hR e fun S1 u v L k i => wpAny_bind (wpAny_standAt (wpAny_bind (wpAny_holding (truthy_b i k fun t k => ?_)))))
    cases t with
    | false => exact wpAny_pure (P S1 u v L k i)
    | true => exact hb S1 loc env (F.le L) hR k fun S2 r v L2 => P S2 r v (L.trans L2)
theorem okL_nil : OkL c n cx [] xlNil := fun pos S loc env F A E Q K hR e P => spliced_nil (P S [] [] (.tok S.tk) e .nil)
theorem okL_cons {e : Expr} {es : List Expr} {x : XE} {xs : XL} (h : Ok c n cx e x) (hs : OkL c n cx es xs) (he : ∀ env, starEach (e :: es) env = (false, eval e env) :: starEach es env) : OkL c n cx (e :: es) (xlCons x xs) :=
  fun pos S loc env F A E Q K hR e P => by
    rw [he]
    exact spliced_cons (h S loc env F hR e fun S1 a v L1 k i1 => hs pos S1 loc env (F.le L1) hR k fun S2 as vs L2 k i2 => P S2 _ _ (L1.trans L2) k (.cons (i1.mono L2.mv) i2))
theorem asAs_el {h : Heap} {rs : List Addr} {xs : List AV} {vs : List Value} {C : Prop} (i : IsL c h rs xs vs) : ∀ {K : List At → Prop}, asAs xs K → (∀ ys, Paired IsA ys vs → K ys → C) → C := by
  induction i with
  | nil => exact fun h f => f [] .nil h
  | cons a _ ih => exact fun h f => asA_el h fun x e h => ih h fun ys p k => f (x :: ys) (.cons (by rw [e] at a; exact a) p) k
theorem small_le {α : Type} {xs : List α} (h : small xs) : xs.length ≤ sizeLine := Nat.le_trans h (by decide)
theorem newTuple_ok {A : Around} {E : Value → Shared → Prop} {Q : Value → Shared → Prop} {ys : List At} {vs : List Value} (i : Paired IsA ys vs) (hl : ys.length ≤ sizeLine) (P : ∀ (S' : Sit c) v, Le noX S S' → S'.led = S.led → S'.Is (.tup ys) v → Q v S'.s) : wpAny c.m A (newTuple vs) Q E S.s :=
  wpAny_newObj_type (P (S.ext ext_push S.tk) _ (.ext ext_push S.tk) rfl ⟨_, _, rfl, ⟨_, Heap.get?_push_size _ rfl, rfl, _, rfl⟩, i⟩) (by show vs.toArray.size ≤ sizeLine; rw [List.size_toArray, ← i.length]; exact hl)
theorem newList_at {xs : List AV} {vs : List Value} (i : S.IsL xs vs) : ObjIs c (S.h.push (PySem.W.listOf vs.toArray 0)) (S.rs ++ [S.h.objs.size]) (.list xs) S.h.objs.size :=
  ⟨vs.toArray, 0, Heap.get?_push_size _ rfl, IsL.mono ⟨fun b o _ _ e _ _ => Heap.get?_push_of_some _ e, fun _ _ e => get_app e⟩ i⟩
theorem newList_ok {xs : List AV} {vs : List Value} {A : Around} {E : Value → Shared → Prop} {Q : Value → Shared → Prop} (i : S.IsL xs vs) (hl : small xs) (P : ∀ (S' : Sit c) v, Le noX S S' → S'.led = S.led ++ [.list xs] → S'.Is (.obj S.led.length) v → Q v S'.s) : wpAny c.m A (newList vs) Q E S.s :=
  wpAny_newObj_type (P (S.grow ext_push (size_none _) (newList_at i) S.tk) _ (.grow ext_push (size_none _) (newList_at i) S.tk) rfl ⟨_, rfl, grow_at S.rep⟩) (by show vs.toArray.size ≤ sizeLine; rw [List.size_toArray, ← i.length]; exact small_le hl)
theorem ok_tuple {es : List Expr} {k : Nat} {pos : Pos} {xs : XL} (h : OkL c n cx es xs) : Ok c n cx (.Tuple es k pos) (xTup xs) :=
  fun S loc env F A E Q K hR e P => Tuple_ (h pos S loc env F hR e fun S1 as vs L1 k i1 => asAs_el i1 k.2 fun ys p k2 => newTuple_ok p (p.length.trans i1.length.symm ▸ small_le k.1) fun S2 v L2 el i2 => P S2 _ v (L1.trans L2) (el ▸ k2) i2)
theorem ok_list {es : List Expr} {pos : Pos} {xs : XL} (h : OkL c n cx es xs) : Ok c n cx (.List es pos) (xList xs) :=
  fun S loc env F A E Q K hR e P => List_ (h pos S loc env F hR e fun S1 as vs L1 k i1 => newList_ok i1 k.1 fun S2 v L2 el i2 => P S2 _ v (L1.trans L2) (el ▸ k.2) i2)
end
end Og
end

section
open PySem PySem.W PySem.Calls PyProof.Rows
set_option Elab.async false
set_option linter.unusedVariables false
set_option genSizeOf false
set_option genInjectivity false
namespace Og

abbrev XS := Loc → Led → KV → (Loc → Led → Prop) → Prop
/-- in a function a step is one of Le's; at the top all may be renamed -/
def LeB {c : Cf} (X : Addr → Prop) (S S' : Sit c) : Prop := (∀ a, a ∈ S'.rs → a ∉ S.rs → S.h.get? a = none) ∧ (∀ b o, S.h.get? b = some o → b ∉ S.rs → ¬ X b → S'.h.get? b = some o) ∧ ∀ b, S'.h.get? b = none → S.h.get? b = none
def Gd {c : Cf} (top : Bool) (env : Env) (S S' : Sit c) : Prop := LeB (FrX env) S S' ∧ (top = false → MonoV S.h S'.h S.rs S'.rs)
def OkX (c : Cf) (n : Nat) (cx : Ctx) (top : Bool) (t : Env → Sem Flow) (x : XS) : Prop := ∀ (S : Sit c) loc env, FrameIs cx S loc env → ∀ {A E Q R K}, Room n A → x loc S.led R K →
  (∀ S' r v, Gd top env S S' → R r S'.led → S'.Is r v → Q (.ret v) S'.s) → (∀ S' loc', Gd top env S S' → FrameIs cx S' loc' env → K loc' S'.led → Q .next S'.s) → wpAny c.m A (t env) Q E S.s
abbrev OkS (c : Cf) (n : Nat) (cx : Ctx) (top : Bool) (st : Stmt) (x : XS) : Prop := OkX c n cx top (exec st) x
abbrev OkB (c : Cf) (n : Nat) (cx : Ctx) (top : Bool) (b : List Stmt) (x : XS) : Prop := OkX c n cx top (execs b) x
/-- a tuple's items -/
def TupOf {c : Cf} (S : Sit c) (xs : List AV) (v : Value) : Prop := ∃ a items, v = .ref a ∧ S.h.IsTuple a items ∧ S.IsL xs items.toList
def OkTu (c : Cf) (n : Nat) (cx : Ctx) (e : Expr) (x : XL) : Prop := ∀ (S : Sit c) loc env, FrameIs cx S loc env → Run n noX TupOf S (eval e env) (x loc S.led)

def sNo : XS := fun _ _ _ _ => False
def sNil : XS := fun loc led _ K => K loc led
def sSeq (a b : XS) : XS := fun loc led R K => a loc led R fun loc l => b loc l R K
def sExpr (x : XE) : XS := fun loc led _ K => x loc led fun _ l => K loc l
def sRet (x : XE) : XS := fun loc led R _ => x loc led R
def sIf (t : XT) (a b : XS) : XS := fun loc led R K => t loc led fun v l => two v (a loc l R K) (b loc l R K)
def sSet (i : Nat) (x : XE) : XS := fun loc led _ K => x loc led fun v l => K (loc.set i (some v)) l
def setAll (is : List Nat) (xs : List AV) (loc : Loc) : Loc := (is.zip xs).foldl (fun loc p => loc.set p.1 (some p.2)) loc
def sMany (is : List Nat) (x : XL) : XS := fun loc led _ K => x loc led fun xs l => xs.length = is.length ∧ K (setAll is xs loc) l
def sSwap (is : List Nat) (x : XL) : XS := fun loc led _ K => x loc led fun xs l => xs.length = is.length ∧ K (setAll is.reverse xs.reverse loc) l
def xItems (x : XE) : XL := fun loc led K => x loc led fun v l => asT v fun xs => K (xs.map .at) l
def xDisp (x : XL) : XL := fun loc led K => x loc led fun vs l => small vs ∧ K vs l
def KindOk (cx : Ctx) (x : Str) : Prop := cx.scope.names.lookup x = some .local ∨ cx.scope.names.lookup x = some .cell
abbrev F3 := AV → AV → AV → Led → (Led → Prop) → Prop
abbrev F2u := AV → AV → Led → (Led → Prop) → Prop
def Ok3 (c : Cf) (n : Nat) (t : Value → Value → Value → Sem Unit) (f : F3) : Prop := ∀ (S : Sit c) a b d va vb vd, S.Is a va → S.Is b vb → S.Is d vd → Run n noX relU S (t va vb vd) fun K => f a b d S.led (K ())
def Ok2u (c : Cf) (n : Nat) (t : Value → Value → Sem Unit) (f : F2u) : Prop := ∀ (S : Sit c) a b va vb, S.Is a va → S.Is b vb → Run n noX relU S (t va vb) fun K => f a b S.led (K ())
def sItem (f : F3) (v o i : XE) : XS := fun loc led _ K => v loc led fun p l => o loc l fun q l => i loc l fun r l => f q r p l (K loc)
def sAttr (f : F2u) (v o : XE) : XS := fun loc led _ K => v loc led fun p l => o loc l fun q l => f q p l (K loc)

section
variable {c : Cf} {n : Nat} {cx : Ctx} {top : Bool} {S S1 S2 : Sit c} {loc : Loc} {env : Env} {X Y : Addr → Prop}
theorem Le.imp (a : Le X S S1) (f : ∀ b, X b → Y b) : Le Y S S1 := ⟨a.fresh, fun b o e m n => a.kp b o e m fun z => n (f b z), a.dom, a.mv⟩
theorem MonoV.trans {h h1 h2 : Heap} {rs rs1 rs2 : List Addr} (p : MonoV h h1 rs rs1) (q : MonoV h1 h2 rs1 rs2) : MonoV h h2 rs rs2 := ⟨fun a o xs n e c d => q.1 a o xs n (p.1 a o xs n e c d) c d, fun i a e => q.2 i a (p.2 i a e)⟩
theorem LeB.trans (p : LeB X S S1) (q : LeB X S1 S2) : LeB X S S2 :=
  ⟨fun a m n => (Classical.em (a ∈ S1.rs)).elim (fun z => p.1 a z n) fun z => p.2.2 a (q.1 a m z),
   fun b o e n x => q.2.1 b o (p.2.1 b o e n x) (fun m => by rw [p.1 b m n] at e; cases e) x, fun b e => p.2.2 b (q.2.2 b e)⟩
theorem Gd.trans (a : Gd top env S S1) (b : Gd top env S1 S2) : Gd top env S S2 := ⟨a.1.trans b.1, fun h => (a.2 h).trans (b.2 h)⟩
theorem Le.gd (a : Le (FrX env) S S1) : Gd top env S S1 := ⟨⟨a.fresh, a.kp, a.dom⟩, fun _ => a.mv⟩
theorem Le.gd0 (a : Le noX S S1) : Gd top env S S1 := a.to.gd
theorem Gd.le (a : Gd false env S S1) : Le (FrX env) S S1 := ⟨a.1.1, a.1.2.1, a.1.2.2, a.2 rfl⟩
/-- one object of the frame's is another one now -/
theorem Rep.frame {rs : List Addr} {led : Led} {h h' : Heap} {a : Addr} (R : Rep c rs led h) (k : KpA a h h') (m : a ∉ rs) (e : c.h₀.get? a = none) (t : ∀ o xs n, h.get? a = some o → o.data = .seq xs n → False) : Rep c rs led h' :=
  R.but (X := (· = a)) (fun b o q z => k b o z q) (fun b z => by rw [z]; exact ⟨m, e⟩) fun b o xs n q _ d z => t o xs n (z ▸ q) d
theorem fr_data (F : FrameIs cx S loc env) (a : Addr) (x : FrX env a) (o : Obj) (xs : Array Value) (n : Nat) (e : S.h.get? a = some o) (d : o.data = .seq xs n) : False := by
  rcases x with rfl | ⟨x, hx⟩
  · obtain ⟨m, ⟨o', es, ep, e', d', _⟩, _⟩ := F.ns
    rw [e] at e'; cases e'; rw [d] at d'; cases d'
  · obtain ⟨v, o', e', d'⟩ := F.cells x a hx
    rw [e] at e'; cases e'; rw [d] at d'; cases d'
abbrev Sit.frame (F : FrameIs cx S loc env) {a : Addr} (x : FrX env a) {h' : Heap} (k : KpA a S.h h') (tk : Nat) : Sit c := ⟨S.rs, S.led, h', tk, S.rep.frame k (F.out a x) (F.eo.new a x) (fr_data F a x)⟩
theorem Le.frame (F : FrameIs cx S loc env) {a : Addr} (x : FrX env a) {h' : Heap} (k : KpA a S.h h') (d : ∃ o, h'.get? a = some o) (tk : Nat) : Le (· = a) S (S.frame F x k tk) :=
  ⟨fun _ m n => (n m).elim, fun b o e _ z => k b o z e, fun b e => (Classical.em (b = a)).elim (fun z => d.elim fun o q => by rw [z, q] at e; cases e) fun z => (by
    cases q : S.h.get? b with
    | none => rfl
    | some o => rw [k b o z q] at e; cases e), fun b o xs n e _ q => k b o (fun z => fr_data F a x o xs n (z ▸ e) q) e, fun _ _ e => e⟩
/-- a name of the frame's is stored -/
theorem store_slot {i : Nat} {x : Str} {v : Value} {av : AV} {A : Around} {E : Value → Shared → Prop} {Q : Unit → Shared → Prop} (F : FrameIs cx S loc env) (hi : cx.slots[i]? = some x) (hn : cx.slots.Nodup) (hk : KindOk cx x) (hv : S.Is av v)
    (q : ∀ (S' : Sit c) a, FrX env a → (cx.scope.names.lookup x = some .local → a = env.locals) → Le (· = a) S S' → S'.led = S.led → FrameIs cx S' (loc.set i (some av)) env → Q () S'.s) : wpAny c.m A (storeName env x v) Q E S.s := by
  have hkn : env.scope.kind = .function := by rw [F.eo.scope]; exact F.eo.kind
  have ko : ∀ y, env.kindOf y = cx.scope.names.lookup y := fun y => by show env.scope.names.lookup y = _; rw [F.eo.scope]
  obtain ⟨m, hm, hl⟩ := F.ns
  have fin : ∀ (h' : Heap) (tk : Nat) (a : Addr) (m' : Str → Option Value), FrX env a → (cx.scope.names.lookup x = some .local → a = env.locals) → Heap.SameBut a S.h h' → (∃ o, h'.get? a = some o) → h'.Ns env.locals m' → (∀ z b, env.cells.lookup z = some b → ∃ u, h'.IsCell b u) → (∀ y u, y ≠ x → Held env m S.h y u → Held env m' h' y u) → Held env m' h' x v →
      Q () { c.s₀ with heap := h', toks := tk } := fun h' tk a m' ha hL k hd hm hc hy hx => by
    have L := Le.frame F ha (kpA k) hd tk
    refine q _ a ha hL L rfl ⟨F.eo, F.out, hc, m', hm, fun j y av' p q => ?_⟩
    by_cases hj : i = j
    · rw [← hj] at p q
      rw [hi] at p; cases p
      rw [List.getElem?_set_self'] at q
      obtain ⟨_, _, q⟩ := Option.map_eq_some_iff.mp q
      cases q; exact ⟨v, hv.mono L.mv, hx⟩
    · rw [List.getElem?_set_ne hj] at q
      obtain ⟨u, i1, i2⟩ := hl j y av' p q
      exact ⟨u, i1.mono L.mv, hy y u (fun z => hj ((List.getElem?_inj (List.getElem?_eq_some_iff.mp hi).1 hn).mp (hi.trans (z ▸ p).symm))) i2⟩
  rcases hk with hk | hk
  · refine wpAny_storeName_local ((ko x).trans hk) hm (fun h' hm' k => ?_) (by rw [hkn]; rfl)
    refine fin h' _ env.locals _ (.inl rfl) (fun _ => rfl) k (hm'.imp fun o z => by obtain ⟨_, _, e, _⟩ := z; exact e) hm' (fun z b hz => ?_) (fun y u ne H => ?_) (.inl ⟨(ko x).trans hk, if_pos rfl⟩)
    · exact (F.cells z b hz).imp fun u z' => z'.imp fun o w => ⟨(k.2 _ (F.eo.ne z b hz)).trans w.1, w.2⟩
    · rcases H with ⟨p, q⟩ | ⟨p, b, q, o, e, d⟩
      · exact .inl ⟨p, (if_neg ne).trans q⟩
      · exact .inr ⟨p, _, q, o, (k.2 _ (F.eo.ne y b q)).trans e, d⟩
  · obtain ⟨a, ha⟩ := F.eo.has x hk
    obtain ⟨u, hu⟩ := F.cells x a ha
    refine wpAny_storeName_cell hkn ((ko x).trans hk) ha hu fun h' hu' k => ?_
    refine fin h' S.tk a _ (.inr ⟨x, ha⟩) (fun z => by rw [hk] at z; cases z) k (hu'.imp fun o z => z.1) (hm.sameBut k (Ne.symm (F.eo.ne x a ha))) (fun z b hz => ?_) (fun y u ny H => ?_) (.inr ⟨.inl ((ko x).trans hk), _, ha, hu'⟩)
    · by_cases q : b = a
      · exact ⟨_, q ▸ hu'⟩
      · exact (F.cells z b hz).imp fun u z' => z'.imp fun o w => ⟨(k.2 _ q).trans w.1, w.2⟩
    · rcases H with H | ⟨p, b, q, o, e, d⟩
      · exact .inl H
      · exact .inr ⟨p, b, q, o, (k.2 _ fun z => ny (F.eo.apart _ _ _ (z ▸ q) ha)).trans e, d⟩

theorem ok_sNo {t : Env → Sem Flow} : OkX c n cx top t sNo := fun _ _ _ _ _ _ _ _ _ _ e _ _ => e.elim
theorem okB_nil : OkB c n cx top [] sNil := fun S loc env F A E Q R K hR e _ P => wpAny_execs_nil (P S loc (Le.gd0 (.tok S.tk)) F e)
theorem okB_cons {st : Stmt} {rest : List Stmt} {a b : XS} (ha : OkS c n cx top st a) (hb : OkB c n cx top rest b) : OkB c n cx top (st :: rest) (sSeq a b) :=
  fun S loc env F A E Q R K hR e P' P => wpAny_execs_cons (ha S loc env F (K := fun loc l => b loc l R K) hR e P' fun S1 loc1 L F1 k => hb S1 loc1 env F1 hR k (fun S2 r v L2 => P' S2 r v (L.trans L2)) fun S2 l L2 => P S2 l (L.trans L2))
theorem okS_expr {e : Expr} {pos : Pos} {x : XE} (h : Ok c n cx e x) (hs : ∀ env, swapsWith e none pos.line env = pure false) : OkS c n cx top (.Expr e pos) (sExpr x) :=
  fun S loc env F A E Q R K hR e' _ P => wpAny_Expr_any (h S loc env F hR e' fun S1 r v L k i => P S1 loc L.gd0 (F.le L) k) (by unfold interactive; rw [F.eo.scope, F.eo.kind]; rfl) (hs env)
theorem okS_ret {e : Expr} {pos : Pos} {x : XE} (h : Ok c n cx e x) : OkS c n cx top (.Return (some e) pos) (sRet x) :=
  fun S loc env F A E Q R K hR e' P' _ => wpAny_Return_some (h S loc env F hR e' fun S1 r v L k i => P' S1 r v L.gd0 k i)
theorem okS_if {t : Expr} {a b : List Stmt} {pos : Pos} {xt : XT} {xa xb : XS} (ht : OkT c n cx t xt) (ha : OkB c n cx top a xa) (hb : OkB c n cx top b xb) : OkS c n cx top (.If t a b pos) (sIf xt xa xb) :=
  fun S loc env F A E Q R K hR e P' P => wpAny_If (ht S loc env F hR e fun S1 u v L k i => by
    cases i
    have P1 := fun S2 r v L2 => P' S2 r v (Gd.trans L.gd0 L2)
    have P2 := fun S2 l L2 => P S2 l (Gd.trans L.gd0 L2)
    cases u with
    | true => exact ha S1 loc env (F.le L) hR k P1 P2
    | false => exact hb S1 loc env (F.le L) hR k P1 P2)
theorem le_at {a : Addr} (x : FrX env a) (L : Le (· = a) S S1) : Le (FrX env) S S1 := L.imp fun b z => z ▸ x
theorem okS_set {e : Expr} {nm : Str} {pos' pos : Pos} {x : XE} (i : Nat) (hi : cx.slots[i]? = some nm) (hn : cx.slots.Nodup) (hk : KindOk cx nm) (h : Ok c n cx e x)
    (hs : ∀ env, swapsWith e (some (.Name nm pos')) pos.line env = pure false) : OkS c n cx top (.Assign [.Name nm pos'] e pos) (sSet i x) :=
  fun S loc env F A E Q R K hR e' _ P => wpAny_Assign_Name (h S loc env F hR e' fun S1 r v L k iv => store_slot (F.le L) hi hn hk iv fun S2 a xa _ L2 el F2 => P S2 _ (Gd.trans L.gd0 (le_at xa L2).gd) F2 (el ▸ k)) (hs env)

/-! several names at once -/
def Stores (cx : Ctx) (env : Env) (i : Nat) (t : Value → Sem Unit) : Prop := ∃ x, cx.slots[i]? = some x ∧ KindOk cx x ∧ ∀ (M : Model) (A : Around) (E : Value → Shared → Prop) (s : Shared) (v : Value) (Q : Unit → Shared → Prop), wpAny M A (storeName env x v) Q E s → wpAny M A (t v) Q E s
abbrev Tgts (cx : Ctx) (env : Env) : List Nat → List (Value → Sem Unit) → Prop := Paired (Stores cx env)
theorem stores_name {i : Nat} {x : Str} {pos : Pos} (a : cx.slots[i]? = some x) (k : KindOk cx x) : Stores cx env i (assign (.Name x pos) env) := ⟨x, a, k, fun _ _ _ _ _ _ h => assign_Name h⟩
theorem stores_bind {i : Nat} {x : Str} (a : cx.slots[i]? = some x) (k : KindOk cx x) : Stores cx env i (fun v => bindName env x v) := ⟨x, a, k, fun _ _ _ _ _ _ h => wpAny_bindName h⟩
theorem assign_all {A : Around} {E : Value → Shared → Prop} (hn : cx.slots.Nodup) {is : List Nat} {ts : List (Value → Sem Unit)} (T : Tgts cx env is ts) {avs : List AV} {vs : List Value} : ∀ {S : Sit c} {loc : Loc} {Q : Unit → Shared → Prop}, S.IsL avs vs → avs.length = is.length →
    FrameIs cx S loc env → (∀ S', Le (FrX env) S S' → S'.led = S.led → FrameIs cx S' (setAll is avs loc) env → Q () S'.s) → wpAny c.m A (assignInOrder ts vs) Q E S.s := by
  induction T generalizing avs vs with
  | nil =>
    intro S loc Q i l F q
    cases i with
    | nil => exact wpAny_pure (q S (Le.to (.tok S.tk)) rfl F)
    | cons _ _ => cases l
  | cons t T ih =>
    intro S loc Q i l F q
    cases i with
    | nil => cases l
    | cons a i =>
      obtain ⟨x, hx, hk, st⟩ := t
      exact wpAny_bind (wpAny_holding (st _ _ _ _ _ _ (store_slot F hx hn hk a fun S1 b xb _ L1 e1 F1 => ih (IsL.mono L1.mv i) (Nat.succ.inj l) F1 fun S2 L2 e2 F2 => q S2 ((le_at xb L1).trans L2) (e2.trans e1) F2)))
theorem IsT.atoms {h : Heap} {rs : List Addr} {xs : List At} {items : List Value} (p : Paired IsA xs items) : IsL c h rs (xs.map .at) items := by
  induction p with
  | nil => exact .nil
  | cons a _ ih => exact .cons a ih
theorem tupOf_T {xs : List At} {v : Value} (i : S.Is (.tup xs) v) : TupOf S (xs.map .at) v := i.imp fun a z => z.imp fun b y => ⟨y.1, y.2.1, IsT.atoms y.2.2⟩
theorem okTu_items {e : Expr} {x : XE} (h : Ok c n cx e x) : OkTu c n cx e (xItems x) := fun S loc env F A E Q K hR k P => h S loc env F hR k fun S1 r v L k i => asT_el k fun xs e k => P S1 _ v L k (tupOf_T (e ▸ i))
theorem okTu_disp {es : List Expr} {k : Nat} {pos : Pos} {x : XL} (h : OkL c n cx es x) : OkTu c n cx (.Tuple es k pos) (xDisp x) := fun S loc env F A E Q K hR e P =>
  Tuple_ (h pos S loc env F hR e fun S1 r v L k i => wpAny_newObj_type (P (S1.ext ext_push S1.tk) r _ (L.trans (.ext ext_push S1.tk)) k.2 ⟨_, v.toArray, rfl, ⟨_, Heap.get?_push_size _ rfl, rfl, _, rfl⟩, IsL.mono ext_push.mv i⟩) (by show v.toArray.size ≤ sizeLine; rw [List.size_toArray, ← i.length]; exact small_le k.1))
/-- a tuple's items into the names of a tuple -/
theorem assign_tup {elts : List Expr} {k : Nat} {tpos : Pos} {is : List Nat} {avs : List AV} {v : Value} {A : Around} {E : Value → Shared → Prop} {Q : Unit → Shared → Prop} (hn : cx.slots.Nodup) (T : Tgts cx env is ((assignEach elts env).map (·.2))) (hst : (assignEach elts env).findIdx? (·.1) = none) (hR : Room n A)
    (F : FrameIs cx S loc env) (i : TupOf S avs v) (l : avs.length = is.length) (q : ∀ S', Le (FrX env) S S' → S'.led = S.led → FrameIs cx S' (setAll is avs loc) env → Q () S'.s) : wpAny c.m A (assign (.Tuple elts k tpos) env v) Q E S.s := by
  obtain ⟨a, items, rfl, ht, il⟩ := i
  have tl := T.length
  rw [List.length_map] at tl
  exact wpAny_assign_Tuple hR.handled ht (by rw [← tl, ← l, il.length, Array.length_toList]) hst fun h1 k => assign_all (S := S.ext (ext_of k) S.tk) hn T (IsL.mono (ext_of k).mv il) l (F.le (.ext (ext_of k) S.tk)) fun S2 L2 => q S2 ((Le.to (.ext (ext_of k) S.tk)).trans L2)
theorem Paired.reverse {α β : Type} {F : α → β → Prop} {xs : List α} {vs : List β} (p : Paired F xs vs) : Paired F xs.reverse vs.reverse := by
  induction p with
  | nil => exact .nil
  | cons a _ ih => rw [List.reverse_cons, List.reverse_cons]; exact ih.snoc a
theorem okS_many {e : Expr} {elts : List Expr} {k : Nat} {tpos pos : Pos} {x : XL} (is : List Nat) (hn : cx.slots.Nodup) (hT : ∀ env, Tgts cx env is ((assignEach elts env).map (·.2))) (hst : ∀ env, (assignEach elts env).findIdx? (·.1) = none) (h : OkTu c n cx e x)
    (hs : ∀ env, swapsWithSole [.Tuple elts k tpos] e pos.line env = pure false) (hw : ∀ env, env.scope = cx.scope → swappedStores [.Tuple elts k tpos] e env = pure none) : OkS c n cx top (.Assign [.Tuple elts k tpos] e pos) (sMany is x) :=
  fun S loc env F A E Q R K hR e' _ P => Assign_Tuple (h S loc env F hR e' fun S1 avs v L k i => assign_tup hn (hT env) (hst env) hR (F.le L) i k.1 fun S2 L2 el F2 => P S2 _ (Gd.trans L.gd0 L2.gd) F2 (el ▸ k.2)) (hs env) (hw env F.eo.scope)
theorem okS_swap {e : Expr} {elts : List Expr} {k : Nat} {tpos pos : Pos} {x : XL} {names : List Str} (is : List Nat) (hn : cx.slots.Nodup) (hl : names.length = is.length) (hT : ∀ env, Tgts cx env is.reverse (names.reverse.map fun n => bindName env n)) (h : OkTu c n cx e x)
    (hs : ∀ env, swapsWithSole [.Tuple elts k tpos] e pos.line env = pure false) (hw : ∀ env, env.scope = cx.scope → swappedStores [.Tuple elts k tpos] e env = pure (some names)) : OkS c n cx top (.Assign [.Tuple elts k tpos] e pos) (sSwap is x) :=
  fun S loc env F A E Q R K hR e' _ P => Assign_Tuple_swapped (h S loc env F hR e' fun S1 avs v L k i => by
    obtain ⟨a, items, rfl, ht, il⟩ := i
    have e : names.length = items.size := by rw [hl, ← k.1, il.length, Array.length_toList]
    rw [e]
    refine wpAny_unpackItems_tuple hR.handled ht fun h1 k1 => ?_
    exact assign_all (S := S1.ext (ext_of k1) S1.tk) hn (hT env) (Og.Paired.reverse (IsL.mono (ext_of k1).mv il)) (by rw [List.length_reverse, List.length_reverse]; exact k.1) (F.le (L.trans (.ext (ext_of k1) S1.tk))) fun S2 L2 el F2 => P S2 _ (Gd.trans (Le.gd0 (L.trans (.ext (ext_of k1) S1.tk))) L2.gd) F2 (el ▸ k.2)) (hs env) (hw env F.eo.scope)

theorem okS_item {e o i : Expr} {pos' pos : Pos} {xe xo xi : XE} {f : F3} (he : Ok c n cx e xe) (ho : Ok c n cx o xo) (hi : Ok c n cx i xi) (hf : Ok3 c n (fun a b d => setItem a b d) f)
    (hs : ∀ env, swapsWith e (some (.Subscript o i pos')) pos.line env = pure false) : OkS c n cx top (.Assign [.Subscript o i pos'] e pos) (sItem f xe xo xi) :=
  fun S loc env F A E Q R K hR e' _ P => wpAny_Assign_Subscript (he S loc env F hR e' fun S1 a va L1 k i1 => ho S1 loc env (F.le L1) hR k fun S2 b vb L2 k i2 => hi S2 loc env ((F.le L1).le L2) hR k fun S3 d vd L3 k i3 =>
    hf S3 b d a vb vd va (i2.mono L3.mv) i3 ((i1.mono L2.mv).mono L3.mv) (K := fun _ => K loc) hR k fun S4 _ _ L4 k _ => have L := L1.trans (L2.trans (L3.trans L4)); P S4 loc L.gd0 (F.le L) k) (hs env)
theorem okS_attr {e o : Expr} {nm : Str} {pos' pos : Pos} {xe xo : XE} {f : F2u} (he : Ok c n cx e xe) (ho : Ok c n cx o xo) (hf : Ok2u c n (fun a b => setAttr a nm b) f)
    (hs : ∀ env, swapsWith e (some (.Attribute o nm pos')) pos.line env = pure false) : OkS c n cx top (.Assign [.Attribute o nm pos'] e pos) (sAttr f xe xo) :=
  fun S loc env F A E Q R K hR e' _ P => plainObj_wpAny_Assign_Attribute (he S loc env F hR e' fun S1 a va L1 k i1 => ho S1 loc env (F.le L1) hR k fun S2 b vb L2 k i2 =>
    hf S2 b a vb va i2 (i1.mono L2.mv) (K := fun _ => K loc) hR k fun S4 _ _ L4 k _ => have L := L1.trans (L2.trans L4); P S4 loc L.gd0 (F.le L) k) (hs env)
end
end Og
end

section
open PySem PySem.W PySem.Calls PyProof.Rows
set_option Elab.async false
set_option linter.unusedVariables false
set_option genSizeOf false
set_option genInjectivity false
namespace Og

/-! readers of the ledger -/
def aoL (ao : AObj) (K : List AV → Prop) : Prop := AObj.casesOn ao K (fun _ => False) (fun _ _ => False) (fun _ => False) (fun _ _ => False)
def aoS (ao : AObj) (K : List (Nat × AV) → Prop) : Prop := AObj.casesOn ao (fun _ => False) K (fun _ _ => False) (fun _ => False) (fun _ _ => False)
def aoD (ao : AObj) (K : Bool → List (List At × Int) → Prop) : Prop := AObj.casesOn ao (fun _ => False) (fun _ => False) (fun b es => K b es) (fun _ => False) (fun _ _ => False)
def aoA (ao : AObj) (K : List (Nat × AV) → Prop) : Prop := AObj.casesOn ao (fun _ => False) (fun _ => False) (fun _ _ => False) K (fun _ _ => False)
def aoI (ao : AObj) (K : Addr → Nat → Prop) : Prop := AObj.casesOn ao (fun _ => False) (fun _ => False) (fun _ _ => False) (fun _ => False) K
def asObj (a : AV) (led : Led) (K : Nat → AObj → Prop) : Prop := asO a fun i => ogo led[i]? (K i)
def asList (a : AV) (led : Led) (K : Nat → List AV → Prop) : Prop := asObj a led fun i ao => aoL ao (K i)
def asSD (a : AV) (led : Led) (K : Nat → List (Nat × AV) → Prop) : Prop := asObj a led fun i ao => aoS ao (K i)
def asDict (a : AV) (led : Led) (K : Nat → Bool → List (List At × Int) → Prop) : Prop := asObj a led fun i ao => aoD ao (K i)
/-- an object of class C that has the entries es -/
def asInst (C : Addr) (a : AV) (led : Led) (K : Nat → List (Nat × AV) → Prop) : Prop := asObj a led fun _ ao => aoI ao fun C' d => C' = C ∧ ogo led[d]? fun ao => aoA ao (K d)
def fDef (k j : Nat) (xb : XS) : FL := fun as led K => as.length = k ∧ xb (as.map some ++ List.replicate j none) led K fun _ l => K (.at .none) l
def xCall (f : FL) (args : XL) : XE := fun loc led K => args loc led fun as l => f as l K
def fGet (C : Addr) (nm : Nat) : F1 := fun a led K => asInst C a led fun _ es => ogo (look es nm) fun e => K e.2 led
/-- the first entry with this key changes, or one more comes -/
def putIn {α : Type} (f : α → Bool) (m : α → α) (x : α) (xs : List α) : List α := if xs.any f then xs.map m else xs ++ [x]
def put {κ ν : Type} [DecidableEq κ] (k : κ) (v : ν) (es : List (κ × ν)) : List (κ × ν) := putIn (fun e => decide (e.1 = k)) (fun e => if e.1 = k then (e.1, v) else e) (k, v) es
def fSet (C : Addr) (nm : Nat) : F2u := fun a v led K => asInst C a led fun d es => K (led.set d (.attrs (put nm v es)))
abbrev MT := AV → Led → (FL → Prop) → Prop
def mAlt (f g : MT) : MT := fun a led K => f a led K ∨ g a led K
def mList (f : FL) : MT := fun a led K => asList a led fun _ _ => K f
def mDict (f : FL) : MT := fun a led K => asDict a led fun _ _ _ => K f
def mInst (C : Addr) (f : FL) : MT := fun a led K => asInst C a led fun _ _ => K f
def xM (tb : MT) (o : XE) (args : XL) : XE := fun loc led K => o loc led fun v l => tb v l fun f => args loc l fun as l => f (v :: as) l K
def fMake (C : Addr) (init : FL) : FL := fun as led K => init (.obj (led.length + 1) :: as) (led ++ [.attrs []] ++ [.inst C led.length]) fun r l => asA r fun x => x = .none ∧ K (.obj (led.length + 1)) l
def fl1 (f : F1) : FL := fun as led K => List.casesOn as False fun a r => r = [] ∧ f a led K
def fl2 (f : F2) : FL := fun as led K => List.casesOn as False fun a r => List.casesOn r False fun b r => r = [] ∧ f a b led K

theorem bindL_other {ko : Str → Option NameKind} {x : Str} {binds : List (Str × Value)} : ∀ {m : Str → Option Value}, x ∉ binds.map (·.1) → bindL ko binds m x = m x ∧ bindC ko binds m x = m x := by
  induction binds with
  | nil => intro m _; exact ⟨rfl, rfl⟩
  | cons p r ih =>
    obtain ⟨n, v⟩ := p
    intro m h
    rw [List.map_cons, List.mem_cons, not_or] at h
    unfold bindL bindC
    rw [(ih h.2).1, (ih h.2).2]
    split
    · exact ⟨if_neg h.1, rfl⟩
    · exact ⟨rfl, if_neg h.1⟩
theorem bindL_get {ko : Str → Option NameKind} {x : Str} {v : Value} {binds : List (Str × Value)} : ∀ {m : Str → Option Value}, (binds.map (·.1)).Nodup → (x, v) ∈ binds → (ko x = some .local → bindL ko binds m x = some v) ∧ (ko x ≠ some .local → bindC ko binds m x = some v) := by
  induction binds with
  | nil => intro m _ h; cases h
  | cons p r ih =>
    obtain ⟨n, u⟩ := p
    intro m hn hm
    rw [List.map_cons, List.nodup_cons] at hn
    unfold bindL bindC
    rcases List.mem_cons.mp hm with e | hm
    · cases e
      refine ⟨fun hk => ?_, fun hk => ?_⟩
      · rw [(bindL_other hn.1).1, if_pos hk, if_pos rfl]
      · rw [(bindL_other hn.1).2, if_neg hk, if_pos rfl]
    · exact ⟨(ih hn.2 hm).1, (ih hn.2 hm).2⟩
theorem zip_names {ns : List Str} {vs : List Value} (h : vs.length = ns.length) : (ns.zip vs).map (·.1) = ns := List.map_fst_zip (Nat.le_of_eq h.symm)
theorem zip_at {ns : List Str} {vs : List Value} {i : Nat} {x : Str} {v : Value} (a : ns[i]? = some x) (b : vs[i]? = some v) : (x, v) ∈ ns.zip vs := List.mem_of_getElem? (i := i) (List.getElem?_zip_eq_some.mpr ⟨a, b⟩)


section
variable {c : Cf} {n : Nat} {cx : Ctx} {top : Bool} {S S1 S2 : Sit c} {loc : Loc} {env : Env} {K : Frag} {mg mb : Str → Option Value} {h : Heap} {a : AV} {v : Value} {C : Prop}
theorem obj_el {K : Nat → AObj → Prop} (h : asObj a S.led K) (i : S.Is a v) (f : ∀ j r ao, K j ao → v = .ref r → S.rs[j]? = some r → ObjIs c S.h S.rs ao r → C) : C :=
  asO_el h fun j e h => ogo_el h fun ao e2 k => by
    rw [e] at i
    exact i.elim fun r z => f j r ao k z.1 z.2 (S.rep.obj j r ao z.2 e2)
theorem list_el {K : Nat → List AV → Prop} (h : asList a S.led K) (i : S.Is a v) (f : ∀ j r xs items m, K j xs → v = .ref r → S.rs[j]? = some r → S.h.get? r = some (PySem.W.listOf items m) → S.IsL xs items.toList → C) : C :=
  obj_el h i fun j r ao k e1 e2 o => by
    cases ao with
    | list xs => obtain ⟨items, m, g, p⟩ := o; exact f j r xs items m k e1 e2 g p
    | _ => exact k.elim
theorem sdict_el {K : Nat → List (Nat × AV) → Prop} (h : asSD a S.led K) (i : S.Is a v) (f : ∀ j r es kvs, K j es → v = .ref r → S.rs[j]? = some r → S.h.DictOf (strKind c.prog c.w) r kvs → Paired (SEnt c S.h S.rs) es kvs → C) : C :=
  obj_el h i fun j r ao k e1 e2 o => by
    cases ao with
    | sdict es => exact o.elim fun kvs z => f j r es kvs k e1 e2 z.1 z.2
    | _ => exact k.elim
theorem dict_el {K : Nat → Bool → List (List At × Int) → Prop} (h : asDict a S.led K) (i : S.Is a v) (f : ∀ j r b es kvs, K j b es → v = .ref r → S.rs[j]? = some r → S.h.DictOfH (tupleKind (kd c b)) r kvs → Paired HEnt es kvs → C) : C :=
  obj_el h i fun j r ao k e1 e2 o => by
    cases ao with
    | dict b es => exact o.elim fun kvs z => f j r b es kvs k e1 e2 z.1 z.2
    | _ => exact k.elim
theorem lookIn_ns {d : Addr} {m : Str → Option Value} (N : h.Ns d m) : ∃ od, h.get? d = some od ∧ ∀ name, lookIn name od = some (m name) := by
  obtain ⟨o, es, ep, e, hd, hs, hf⟩ := N
  refine ⟨o, e, fun name => ?_⟩
  unfold lookIn
  rw [hd, ← hf name]
  unfold nsFind findBy
  rw [← Array.find?_toList]
  dsimp only
  cases q : es.toList.find? (·.key.isStr name) with
  | some en => rfl
  | none =>
    refine if_neg fun z => ?_
    obtain ⟨en, hen, z⟩ := List.any_eq_true.mp z
    obtain ⟨x, t, ek⟩ := hs en (Array.mem_toList_iff.mp hen)
    unfold DictEntry.refKey at z
    rw [ek] at z; cases z
theorem inst_el {D : Addr} {K : Nat → List (Nat × AV) → Prop} (h : asInst D a S.led K) (i : S.Is a v)
    (f : ∀ d es x dx od m, K d es → v = .ref x → S.rs[d]? = some dx → InstAt S.h x (instObj D dx) D (some od) → (∀ name, lookIn name od = some (m name)) → S.h.Ns1 dx m → AttrsAre c S.h S.rs es m → C) : C :=
  obj_el h i fun j r ao k e1 e2 o => by
    cases ao with
    | inst D' d =>
      obtain ⟨rfl, k⟩ := k
      obtain ⟨dx, p3, p4⟩ := o
      refine ogo_el k fun ao e3 k => ?_
      have o := S.rep.obj d dx ao p3 e3
      cases ao with
      | attrs es =>
        obtain ⟨m, N, At⟩ := o
        obtain ⟨od, p5, p6⟩ := lookIn_ns N.ns
        exact f d es r dx od m k e1 p3 ⟨p4, rfl, rfl, p5⟩ p6 N At
      | _ => exact k.elim
    | _ => exact k.elim

/-! the frame of a call -/
theorem frame_new {scope : Scope} {names others : List Str} {as : List AV} {vs : List Value} {L : Addr} {globals builtins : Addr} {cells : List (Str × Addr)} {qual : Str} {func : Option Addr} {code : Value} {s' : Shared}
    (he : env = newEnv scope L globals cells qual func code none builtins) (hk : scope.kind = .function) (hg : globals = mainGlobals) (hb : builtins = builtinsNs) (hnn : names.Nodup) (hkd : ∀ x ∈ names, scope.names.lookup x = some .local ∨ scope.names.lookup x = some .cell)
    (hhas : ∀ x, scope.names.lookup x = some .cell → (cells.lookup x).isSome = true) (i : S.IsL as vs) (hl : as.length = names.length) (k : Ext S.h s'.heap) (el : S1 = S.ext k s'.toks) (no : ∀ b, FrX env b → S.h.get? b = none)
    (x : InCallC S.s env.locals (bindL env.kindOf (names.zip vs) fun _ => none) env.cells (bindC env.kindOf (names.zip vs) fun _ => none) s') :
    FrameIs ⟨scope, names ++ others⟩ S1 (as.map some ++ List.replicate others.length none) env := by
  have hvl : vs.length = names.length := i.length ▸ hl
  have hko : ∀ y, env.kindOf y = scope.names.lookup y := fun y => by rw [he]; rfl
  subst el
  refine ⟨⟨by rw [he]; rfl, hk, by rw [he]; exact hg, by rw [he]; exact hb, fun b z => S.rep.new' (no b z), fun y a e => Nat.ne_of_gt (x.above y a (mem_of_lookup e)), fun y z a e1 e2 => name_of_addr x.apart (mem_of_lookup e1) (mem_of_lookup e2), fun y hy => by rw [he]; exact Option.isSome_iff_exists.mp (hhas y hy)⟩,
    fun b z m => (S.rep.mem m).elim fun o e => (by rw [no b z] at e; cases e.1), fun y a e => ⟨_, x.cell y a e⟩, _, x.toInCall.ns, fun j y av a b => ?_⟩
  rw [List.getElem?_append, List.length_map] at b
  by_cases hj : j < as.length
  · rw [if_pos hj, List.getElem?_map] at b
    obtain ⟨av', ha, hb'⟩ := Option.map_eq_some_iff.mp b
    cases hb'
    rw [List.getElem?_append_left (hl ▸ hj)] at a
    refine Paired.get i ha fun v hv iv => ?_
    obtain ⟨g1, g2⟩ := bindL_get (ko := env.kindOf) (m := fun _ => none) (by rw [zip_names hvl]; exact hnn) (zip_at a hv)
    refine ⟨v, iv.mono k.mv, ?_⟩
    rcases hkd y (List.mem_of_getElem? a) with q | q
    · exact .inl ⟨(hko y).trans q, g1 ((hko y).trans q)⟩
    · obtain ⟨b, hb⟩ := Option.isSome_iff_exists.mp (hhas y q)
      have hb : env.cells.lookup y = some b := by rw [he]; exact hb
      exact .inr ⟨.inl ((hko y).trans q), b, hb, g2 (by rw [hko, q]; decide) ▸ x.cell y b hb⟩
  · rw [if_neg hj, List.getElem?_replicate] at b
    split at b <;> cases b

structure DefOk (c : Cf) (fa : Addr) (fd : FuncData) (names : List Str) (body : List Stmt) : Prop where
  obj : ∃ o, c.h₀.get? fa = some o ∧ o.data = .func fd
  body : fd.body = .stmts body
  clos : fd.closure = []
  code : c.h₀.CodeRec fd.code fd.qualname
  glob : fd.globals = mainGlobals
  blt : fd.builtins = builtinsNs
  co : fd.scope.isCoroutine = false
  gen : fd.scope.isGenerator = false
  kind : fd.scope.kind = .function
  nodup : names.Nodup
  kinds : ∀ x ∈ names, fd.scope.names.lookup x = some .local ∨ fd.scope.names.lookup x = some .cell
  has : ∀ x n, fd.scope.names.lookup x = some .cell → ((cellsFrom n fd.scope.names []).lookup x).isSome = true
  bind : ∀ (s : Shared) vs, Ext c.h₀ s.heap → vs.length = names.length → BindsTo s fd ⟨vs, []⟩ (names.zip vs)

/-- a callee by its code -/
def OkC (c : Cf) (n : Nat) (fv : Value) (f : FL) : Prop := ∀ (S : Sit c) as vs, S.IsL as vs → ∀ {A R K}, Room n A → f as S.led K → (∀ S' r v, Le noX S S' → K r S'.led → S'.Is r v → R (.ok (.ret v)) S'.s) → codeAny c.m A (.call fv ⟨vs, []⟩) R S.s
theorem OkC.toF {fv : Value} {f : FL} (C : OkC c n fv f) : OkF c n fv f := fun S as vs i A E Q K hR e P => wpAny_call (C S as vs i hR e P)
theorem Room.mono {m : Nat} {A : Around} (h : n ≤ m) (R : Room m A) : Room n A := ⟨R.handled, R.guards, Nat.lt_of_le_of_lt (Nat.add_le_add_left (Nat.mul_le_mul_left 4 h) _) R.depth, Nat.lt_of_le_of_lt (Nat.add_le_add_right (Nat.add_le_add_left (Nat.mul_le_mul_left 16 h) _) _) R.units⟩
theorem OkF.mono {m : Nat} {fv : Value} {f : FL} (h : n ≤ m) (C : OkF c n fv f) : OkF c m fv f := fun S as vs i A E Q K hR e P => C S as vs i (hR.mono h) e P
theorem okC_def (B : Bs c K mg mb) {fa : Addr} {fd : FuncData} {body : List Stmt} {names : List Str} (others : List Str) {xb : XS} (D : DefOk c fa fd names body) (hok : OkB c n ⟨fd.scope, names ++ others⟩ false body xb) :
    OkC c (n + 1) (.ref fa) (fDef names.length others.length xb) := fun S as vs i A R' K hR e P => by
  obtain ⟨o, ho, hd⟩ := D.obj
  have hl := e.1
  have hvl : vs.length = names.length := i.length ▸ hl
  refine codeAny_call_function (R := R') hR.d (S.rep.keep _ _ ho) hd D.co D.gen D.body (by obtain ⟨a, oc, us, t, p, q, r⟩ := D.code; exact ⟨a, oc, us, t, p, S.rep.keep _ _ q, r⟩) (D.bind S.s vs S.rep.keep hvl _ _ _ _ ?_)
  rw [D.clos]
  refine wpAny_newFunctionEnv_cells D.kind (fun y hy => (D.kinds y.1 (by rw [← zip_names hvl]; exact List.mem_map_of_mem hy)).imp id fun z => ⟨z, D.has _ _ z⟩) fun env he s' x => ?_
  have no : ∀ b, FrX env b → S.h.get? b = none := fun b z => by
    cases q : S.h.get? b with
    | none => rfl
    | some o => exact absurd (Heap.lt_size q) (Nat.not_lt.mpr (z.elim (fun e => e ▸ x.toInCall.fresh) fun ⟨y, e⟩ => Nat.le_trans x.toInCall.fresh (Nat.le_of_lt (x.above y b (mem_of_lookup e)))))
  obtain ⟨h1, tk, rfl, kk⟩ := x.done
  have F := frame_new (others := others) he D.kind D.glob D.blt D.nodup D.kinds (fun y z => D.has _ _ z) i hl (s' := { S.s with heap := h1, toks := tk }) kk rfl no x
  have fin : ∀ S2 : Sit c, Gd false env (S.ext kk tk) S2 → Le noX S S2 := fun S2 L2 => have L2 := L2.le
    ⟨fun a m n => dom_ext kk a (L2.fresh a m n), fun b o e m _ => L2.kp b o (kk b o e) m fun z => (by rw [no b z] at e; cases e), fun b e => dom_ext kk b (L2.dom b e), fun b o xs n e c d => L2.mv.1 b o xs n (kk b o e) c d, L2.mv.2⟩
  exact ⟨B.lim.keeps (S.rep.all kk).keep, codeAny_func (hok (S.ext kk tk) _ env F (A := A.deeper env) hR.deeper e.2 (fun S2 r v L2 k i => P S2 r v (fin S2 L2) k i) fun S2 l L2 _ k => P S2 _ _ (fin S2 L2) k rfl)⟩

def KeepOk (c : Cf) (f : Value) : Prop := ∀ h : Heap, Ext c.h₀ h → ∃ k, (k = Keeper.frame ∨ k = Keeper.machine ∨ k = Keeper.boundFrame) ∧ Looks (model c.prog c.w) h (keeperOf f) k
theorem keep_K (B : Bs c K mg mb) {f : Value} (hk : keepIn K f = true) : KeepOk c f := fun h k => keeps_K hk h (B.K.keeps k)
theorem keep_builtin {id : String} : KeepOk c (.builtin id) := fun h k => ⟨.machine, .inr (.inl rfl), Looks.of_pure rfl⟩
theorem keep_type {T : String} : KeepOk c (.type T) := fun h k => ⟨.machine, .inr (.inl rfl), Looks.of_pure rfl⟩
theorem evalArgs_any {M : Model} {A : Around} {E : Value → Shared → Prop} {f : Value} {trees : List (Bool × Sem Value)} {Q : Args → Shared → Prop} (hp : trees.any (·.1) = false) (h : wpAny M A (spliced trees) (fun vs s' => Q ⟨vs, []⟩ s') E s) : wpAny M A (evalArgs f true trees []) Q E s := by
  cases trees with
  | nil =>
    show wpAny M A ((spliced [] >>= fun vs => pure ((vs, (none : Option Value)))) >>= fun p => holding (p.1 ++ p.2.toList) (evalAll [] >>= fun _ => pure ⟨p.1, []⟩)) Q E s
    exact wpAny_bind (wpAny_bind (wpAny_mono h (fun vs s1 h1 => wpAny_pure (wpAny_holding (wpAny_bind (wpAny_pure (wpAny_pure h1))))) fun _ _ e => e))
  | cons t r =>
    obtain ⟨b, t⟩ := t
    cases b with
    | true => cases hp
    | false => exact evalArgs_plain h

/-- the arguments, then the call -/
theorem callWith_ok {f : Value} {first : List Value} {fas : List AV} {fn : FL} {args : List Expr} {xs : XL} {pos : Pos} {A : Around} {E : Value → Shared → Prop} {Q : Value → Shared → Prop} {K : KV} (hk : KeepOk c f) (hf : OkF c n f fn) (ha : OkL c n cx args xs)
    (hp : (backTo pos (starEach args env)).any (·.1) = false) (hR : Room n A) (F : FrameIs cx S loc env) (i : S.IsL fas first) (e : xs loc S.led fun as l => fn (fas ++ as) l K)
    (P : ∀ S' r v, Le noX S S' → K r S'.led → S'.Is r v → Q v S'.s) : wpAny c.m A (callWith pos f first (backTo pos (starEach args env)) []) Q E S.s :=
  callWith_of (P := fun h => Ext c.h₀ h) (by rw [hp]; rfl) hk (evalArgs_any hp (ha pos S loc env F hR e fun S1 as vs L k i1 => ⟨S1.rep.keep, hf S1 _ _ (Paired.append (IsL.mono L.mv i) i1) hR k fun S2 r v L2 => P S2 r v (L.trans L2)⟩))
theorem ok_call (B : Bs c K mg mb) {x : Str} {np pos : Pos} {args : List Expr} {f : Value} {fn : FL} {xs : XL} (hx : cx.scope.names.lookup x = some .globalImplicit) (hm : NameIs mg mb x f) (hd : (x == ("__debug__" : Str)) = false) (hk : KeepOk c f) (hf : OkF c n f fn)
    (ha : OkL c n cx args xs) (hp : ∀ env, (backTo pos (starEach args env)).any (·.1) = false) : Ok c n cx (.Call (.Name x np) args [] pos) (xCall fn xs) := fun S loc env F A E Q K hR e P =>
  Call_ (name_at B F hx hm hd (callWith_ok (fas := []) hk hf ha (hp env) hR F .nil e P))
theorem handed_is {a : AV} {v : Value} (i : S.Is a v) : handedIn v = true := by
  cases a with
  | «at» a => cases a with
    | none => cases i; rfl
    | bool b => cases i; rfl
    | str j => obtain ⟨x, t, _, rfl⟩ := i; rfl
    | _ => obtain ⟨t, rfl⟩ := i; rfl
  | _ => obtain ⟨x, y⟩ := i; first | (obtain ⟨rfl, _⟩ := y; rfl) | (obtain ⟨z, rfl, _⟩ := y; rfl) | (obtain ⟨z, u, rfl, _⟩ := y; rfl)

/-! objects of a class -/
/-- what a class says of its objects: their own entries are read and stored plainly -/
structure ClsOk (K : Frag) (C : Addr) : Prop where
  get : findIn K (.ref C) "__getattribute__" = some (some (.builtin "object.__getattribute__"))
  miss : findIn K (.ref C) "__getattr__" = some none
  dict : hasDictIn K C = true
  set : findIn K (.ref C) "__setattr__" = some (some (.builtin "object.__setattr__"))
  over : plainOver K C = true
theorem ok_attr (B : Bs c K mg mb) {C : Addr} (H : ClsOk K C) {o : Expr} {pos : Pos} {xo : XE} (nm : Nat) {x : Str} (hx : words[nm]? = some x) (ha : findIn K (.ref C) x = some none) (ho : Ok c n cx o xo)
    (he : ∀ env, eval (.Attribute o x pos) env = (do
      let v ← eval o env
      standAt pos.atName
      let r ← holding [v] (getAttr v x true)
      letTemporaryGo o v r
      pure r)) : Ok c n cx (.Attribute o x pos) (x1 (fGet C nm) xo) := fun S loc env F A E Q K hR e P =>
  Attribute_any_ (ho S loc env F hR e fun S1 a v1 L k i => inst_el k i fun d es y dx od m k e1 hd I hl N At => ogo_el k fun e2 e3 k => by
    subst e1
    obtain ⟨u, hu, iu⟩ := At.hit nm x e2 hx e3
    exact get_value (B.K.keeps S1.rep.keep) I H.get (findObj_own H.dict ha rfl ((hl x).trans (congrArg some hu))) (handed_is iu) (P (S1.tok _) _ _ (L.trans (.tok _)) k iu)) (he env)
theorem look_put {κ ν : Type} [DecidableEq κ] {es : List (κ × ν)} {k j : κ} {v : ν} : look (put k v es) j = if j = k then some (k, v) else look es j := by
  unfold put putIn
  by_cases q : es.any (fun e => decide (e.1 = k)) = true
  · rw [if_pos q]
    unfold look
    rw [List.find?_map]
    have : ((fun e : κ × ν => decide (e.1 = j)) ∘ fun e => if e.1 = k then (e.1, v) else e) = fun e => decide (e.1 = j) := funext fun e => by
      show decide ((if e.1 = k then (e.1, v) else e).1 = j) = _
      by_cases z : e.1 = k
      · rw [if_pos z]
      · rw [if_neg z]
    rw [this]
    cases r : es.find? fun e => decide (e.1 = j) with
    | none =>
      refine (if_neg fun z => ?_).symm
      rw [z] at r
      obtain ⟨e, m, d⟩ := List.any_eq_true.mp q
      exact List.find?_eq_none.mp r e m d
    | some e =>
      have d : e.1 = j := of_decide_eq_true (List.find?_some (p := fun e : κ × ν => decide (e.1 = j)) r)
      show some (if e.1 = k then (e.1, v) else e) = _
      by_cases z : j = k
      · rw [if_pos z, if_pos (d.trans z), d.trans z]
      · rw [if_neg z, if_neg fun y => z (d.symm.trans y)]
  · rw [if_neg q]
    unfold look
    rw [List.find?_append]
    by_cases z : j = k
    · rw [if_pos z, List.find?_eq_none.mpr fun e m d => q (List.any_eq_true.mpr ⟨e, m, z ▸ d⟩), List.find?_cons, decide_eq_true z.symm]; rfl
    · rw [if_neg z, List.find?_cons, decide_eq_false (Ne.symm z)]
      cases es.find? fun e => decide (e.1 = j) <;> rfl
theorem attrs_put {rs : List Addr} {es : List (Nat × AV)} {m : Str → Option Value} {nm : Nat} {x : Str} {av : AV} {v : Value} (At : AttrsAre c h rs es m) (hx : words[nm]? = some x) (i : Is c h rs av v) : AttrsAre c h rs (put nm av es) (fun y => if y = x then some v else m y) := by
  refine ⟨fun j y e hy q => ?_, fun j y hy e => ?_, fun y hy => ?_⟩
  · rw [look_put] at q
    by_cases z : j = nm
    · rw [if_pos z] at q
      cases q
      exact ⟨v, if_pos (Option.some.inj (hy.symm.trans (z ▸ hx))), i⟩
    · rw [if_neg z] at q
      obtain ⟨u, a, b⟩ := At.hit j y e hy q
      exact ⟨u, (if_neg fun q : y = x => z (words_inj hy (q ▸ hx))).trans a, b⟩
  · rw [look_put] at e
    by_cases q : j = nm
    · rw [if_pos q] at e; cases e
    · rw [if_neg q] at e
      exact (if_neg fun z : y = x => q (words_inj hy (z ▸ hx))).trans (At.miss j y hy e)
  · by_cases q : y = x
    · exact q ▸ List.mem_of_getElem? hx
    · exact At.within y (by rwa [if_neg q] at hy)
theorem set_ok (B : Bs c K mg mb) {C : Addr} (H : ClsOk K C) {nm : Nat} {x : Str} (hx : words[nm]? = some x) (ht : takerIn K C x = some none) : Ok2u c n (fun a b => setAttr a x b) (fSet C nm) := fun S a b va vb ia ib A E Q K hR e P =>
  inst_el e ia fun d es y dx od m k e1 hd I hl N At => by
  subst e1
  have X := B.K.keeps S.rep.keep
  refine set_plain X I H.set (osa_open (s := { S.s with toks := S.tk + 1 }) X I H.over ht fun b' => ?_)
  obtain ⟨cd, hc, hdd⟩ := any_some H.dict
  refine wpAny_bind (wpAny_pure (wpAny_bind (wpAny_bind (wpAny_loadPart I.at_ (wpAny_bind (looks_clsIn X hc _ _ _ _ (fun _ _ e => e) ?_))))))
  rw [hdd]
  refine wpAny_pure (a := some dx) (wpAny_bind (wpAny_pure (wpAny_bind ?_)))
  refine wpAny_nsSet1 (s := { S.s with toks := S.tk + 1 }) N fun h1 N1 k1 => ?_
  have At1 := attrs_put At hx ib
  obtain ⟨od1, es1, ep1, q1, q2, q3⟩ := N1.count At1.within
  have o : ObjIs c h1 S.rs (.attrs _) dx := ⟨_, N1, At1.mono (S.rep.mvS hd (kpA k1))⟩
  exact wpAny_bind (wpAny_lookBehind q1 (by rw [q2]; exact pastItsLine_dict (Nat.le_trans q3 (by decide +kernel))) (wpAny_pure (P (S.set hd (kpA k1) o _) () () (.set hd (kpA k1) o _) k trivial)))
/-- an object of a class is made -/
theorem okC_make (B : Bs c K mg mb) {C : Addr} (hm : makesIn K C = true) {fI : Addr} {fn : FL} (hi : findIn K (.ref C) "__init__" = some (some (.ref fI))) (hf : typeIn K (.ref fI) = some (.type "function")) (hfn : OkC c n (.ref fI) fn) : OkC c (n + 1) (.ref C) (fMake C fn) :=
  fun S as vs i A Q K hR e P => by
  have X := B.K.keeps S.rep.keep
  refine make_core (makes_of X hm) (looks_findIn X hi) (fun self => bind_fn X self hf) (.inl rfl) ?_
  have o1 : ObjIs c (S.h.push emptyDict) (S.rs ++ [S.h.objs.size]) (.attrs []) S.h.objs.size := ⟨fun _ => none, ⟨_, #[], 0, Heap.get?_push_size _ rfl, rfl, fun _ z => absurd z (by simp), List.Pairwise.nil, fun _ => rfl⟩, ⟨fun _ _ _ _ z => (nomatch z), fun _ _ _ _ => rfl, fun _ z => absurd rfl z⟩⟩
  have o2 : ObjIs c ((S.h.push emptyDict).push (instObj C S.h.objs.size)) (S.rs ++ [S.h.objs.size] ++ [(S.h.push emptyDict).objs.size]) (.inst C S.led.length) (S.h.push emptyDict).objs.size := ⟨S.h.objs.size, get_app (grow_at S.rep), Heap.get?_push_size _ rfl⟩
  have L := (Le.grow (S := S) ext_push (size_none _) o1 S.tk).trans (Le.grow (S := S.grow ext_push (size_none _) o1 S.tk) ext_push (size_none _) o2 S.tk)
  have at_ : (S.rs ++ [S.h.objs.size] ++ [(S.h.push emptyDict).objs.size])[S.led.length + 1]? = some (S.h.objs.size + 1) := by
    have := grow_at (S.grow ext_push (size_none _) o1 S.tk).rep (a := (S.h.push emptyDict).objs.size)
    rw [List.length_append, List.length_singleton] at this
    exact this.trans (congrArg some (Heap.size_push ..))
  exact hfn _ (.obj (S.led.length + 1) :: as) _ (.cons ⟨_, rfl, at_⟩ (IsL.mono L.mv i)) (A := A.under _) hR.make e fun S3 r v L3 k i3 => asA_el k fun x e k => by
    rw [e, k.1] at i3
    exact ⟨i3, P S3 _ _ (L.trans L3) k.2 ⟨_, rfl, L3.mv.2 _ _ at_⟩⟩

/-! methods of an object's kind -/
def OkM (c : Cf) (n : Nat) (x : Str) (tb : MT) : Prop := ∀ {S : Sit c} {a va K} {C : Prop}, S.Is a va → tb a S.led K → (∀ f fv, K f → KeepOk c fv → OkF c n fv f → (∀ A E pl (Q : Value × List Value → Shared → Prop), Q (fv, [va]) S.s → wpAny c.m A (getMethod va x pl) Q E S.s) → C) → C
theorem OkM.alt {x : Str} {f g : MT} (hf : OkM c n x f) (hg : OkM c n x g) : OkM c n x (mAlt f g) := fun i e k => e.elim (fun e => hf i e k) fun e => hg i e k
theorem ok_fl1 {fv : Value} {f : F1} (hf : Ok1 c n (fun v => call fv [v]) f) : OkF c n fv (fl1 f) := fun S as vs i A E Q K hR e P => by
  cases i with
  | nil => exact e.elim
  | cons a i =>
    obtain ⟨e1, e⟩ := e
    subst e1
    cases i
    exact hf S _ _ a hR e P
theorem ok_fl2 {fv : Value} {f : F2} (hf : Ok2 c n (fun u v => call fv [u, v]) f) : OkF c n fv (fl2 f) := fun S as vs i A E Q K hR e P => by
  cases i with
  | nil => exact e.elim
  | cons a i =>
    cases i with
    | nil => exact e.elim
    | cons b i =>
      obtain ⟨e1, e⟩ := e
      subst e1
      cases i
      exact hf S _ _ _ _ a b hR e P
theorem isList {r : Addr} {items : Array Value} {k : Nat} (e : h.get? r = some (PySem.W.listOf items k)) : h.IsList r items := ⟨_, e, rfl, k, rfl⟩
theorem okM_list {x : Str} {id : String} (slot : Slot "list" x id) (hty : typeOf (.builtin id) = pure (.type "method_descriptor")) {f : FL} (hf : OkF c n (.builtin id) f) : OkM c n x (mList f) := fun i e k => list_el e i fun j r xs items m k1 e1 _ g _ => by
  subst e1
  exact k f _ k1 keep_builtin hf fun A E pl Q q => getMethod_builtin (isList g).typeIs PySem.F.plainAttrs_list slot hty (fun a e => by cases e; exact ⟨_, g, rfl⟩) q
theorem okM_dict {x : Str} {id : String} (slot : Slot "dict" x id) (hty : typeOf (.builtin id) = pure (.type "method_descriptor")) {f : FL} (hf : OkF c n (.builtin id) f) : OkM c n x (mDict f) := fun i e k => dict_el e i fun j r b es kvs k1 e1 _ g _ => by
  subst e1
  exact k f _ k1 keep_builtin hf fun A E pl Q q => getMethod_builtin g.typeIs PySem.F.plainAttrs_dict slot hty (dictOfH_noDict g) q
theorem okM_inst (B : Bs c K mg mb) {C : Addr} (H : ClsOk K C) {x : Str} {fa : Addr} {fn : FL} (hf : findIn K (.ref C) x = some (some (.ref fa))) (ht : typeIn K (.ref fa) = some (.type "function"))
    (hsh : x ∉ words) (hk : KeepOk c (.ref fa)) (hfn : OkF c n (.ref fa) fn) : OkM c n x (mInst C fn) := fun {S a va K' C'} i e k => inst_el e i fun d es y dx od m k1 e1 hd I hl N At => by
  subst e1
  refine k fn _ k1 hk hfn fun A E pl Q q => method_fn (B.K.keeps S.rep.keep) I H.get H.miss hf ht ?_ q
  show (lookIn x od).map _ = _
  rw [hl x, show m x = none from Decidable.byContradiction fun z => hsh (At.within x z)]; rfl
theorem ok_method {o : Expr} {x : Str} {apos pos : Pos} {args : List Expr} {tb : MT} {xo : XE} {xs : XL} (pl : Env → Sem Bool) (hm : OkM c n x tb) (ho : Ok c n cx o xo) (ha : OkL c n cx args xs) (hp : ∀ env pos, (backTo pos (starEach args env)).any (·.1) = false)
    (he : ∀ env, eval (.Call (.Attribute o x apos) args [] pos) env = (do
      let ov ← eval o env
      standAt apos.atName
      let (f, first) ← holding [ov] (getMethod ov x (pl env))
      callWith pos f first (backTo pos (starEach args env)) (backToKw pos (keywordEach [] env)))) : Ok c n cx (.Call (.Attribute o x apos) args [] pos) (xM tb xo xs) := fun S loc env F A E Q K hR e P =>
  methodCall_KW (pl := pl env) (ho S loc env F hR e fun S1 a v L k i => hm i k fun f fv k hk hf g => g _ _ _ _ (callWith_ok (fas := [a]) hk hf ha (hp env pos) hR (F.le L) (.cons i .nil) k fun S2 r v L2 => P S2 r v (L.trans L2))) (he env)
end
end Og
end

section
open PySem PySem.W PySem.Calls PyProof.Rows PySem.SeqAt
set_option Elab.async false
set_option linter.unusedVariables false
set_option genSizeOf false
set_option genInjectivity false
namespace Og

/-- what sort of thing it is -/
def tag (a : AV) (led : Led) : Nat := AV.casesOn a (fun x => At.casesOn x 0 (fun _ => 1) (fun _ => 2) (fun _ => 3) (fun _ => 4)) (fun _ => 5) (fun _ => 6) (fun _ _ => 7)
  (fun i => Option.casesOn led[i]? 0 fun ao => AObj.casesOn ao (fun _ => 8) (fun _ => 9) (fun _ _ => 10) (fun _ => 0) (fun _ _ => 11)) (fun _ => 12)
def sel (k : Nat) (f g : F2) : F2 := fun a b led K => two (Nat.beq (tag a led) k) (f a b led K) (g a b led K)
def selR (k : Nat) (f g : F2) : F2 := fun a b led K => two (Nat.beq (tag b led) k) (f a b led K) (g a b led K)
def asI (a : AV) (K : Int → Prop) : Prop := asA a fun x => atI x K
def asS (a : AV) (K : Nat → Prop) : Prop := asA a fun x => atS x K
def asY (a : AV) (K : List UInt8 → Prop) : Prop := asA a fun x => atY x K
/-- two numbers -/
def fI (g : Int → Int → (At → Prop) → Prop) : F2 := fun a b led K => asI a fun i => asI b fun j => g i j fun k => K (.at k) led
def fC (g : Int → Int → Bool) : F2 := fI fun i j K => K (.bool (g i j))
def gMul (i j : Int) (K : At → Prop) : Prop := (i.natAbs < 4611686018427387904 ∨ j.natAbs < 4611686018427387904) ∧ K (.int (i * j))
def gDiv (i j : Int) (K : At → Prop) : Prop := (j ≠ 0 ∧ j.natAbs < 1073741824) ∧ K (.int (i.fdiv j))
def gMod (i j : Int) (K : At → Prop) : Prop := j ≠ 0 ∧ K (.int (i.fmod j))
def gPow (i j : Int) (K : At → Prop) : Prop := (0 ≤ j ∧ j ≤ 1000000 ∧ i.natAbs < 18446744073709551616) ∧ K (.int (i ^ j.toNat))
def gShl (i j : Int) (K : At → Prop) : Prop := (0 ≤ j ∧ j ≤ 1000000 ∧ i.natAbs < 18446744073709551616) ∧ K (.int (i * 2 ^ j.toNat))
def fEqS (k : Bool) : F2 := fun a b led K => asS a fun i => asS b fun j => K (.at (.bool ((i == j) == k))) led
def fNeY : F2 := fun a b led K => asY a fun x => asY b fun y => K (.at (.bool (x != y))) led
def fAddY : F2 := fun a b led K => asY a fun x => asY b fun y => (small x ∧ small y) ∧ K (.at (.bytes (x ++ y))) led
/-- two plain things of one kind -/
def like (b : Bool) (x y : AV) : Bool := AV.casesOn x (fun p => AV.casesOn y (fun q => ofKind b p && ofKind b q) (fun _ => false) (fun _ => false) (fun _ _ => false) (fun _ => false) (fun _ => false))
  (fun p => AV.casesOn y (fun _ => false) (fun q => p.all (ofKind b) && q.all (ofKind b)) (fun _ => false) (fun _ _ => false) (fun _ => false) (fun _ => false)) (fun _ => false) (fun _ _ => false) (fun _ => false) (fun _ => false)
def same (x y : AV) : Bool := AV.casesOn x (fun p => AV.casesOn y (fun q => decide (p = q)) (fun _ => false) (fun _ => false) (fun _ _ => false) (fun _ => false) (fun _ => false))
  (fun p => AV.casesOn y (fun _ => false) (fun q => decide (p = q)) (fun _ => false) (fun _ _ => false) (fun _ => false) (fun _ => false)) (fun _ => false) (fun _ _ => false) (fun _ => false) (fun _ => false)
def kinds (xs ys : List At) : Prop := ∃ b, xs.all (ofKind b) = true ∧ ys.all (ofKind b) = true
def likes (ys : List AV) (x : AV) : Prop := ∃ b, ys.all (fun y => like b y x) = true
def fNeT : F2 := fun a b led K => asT a fun x => asT b fun y => kinds x y ∧ K (.at (.bool (!decide (x = y)))) led
def fEqL : F2 := fun a b led K => asList a led fun _ xs => asList b led fun _ ys => asAs xs fun xs => asAs ys fun ys => (xs.length = ys.length ∧ kinds xs ys) ∧ K (.at (.bool (decide (xs = ys)))) led
def fInL (k : Bool) : F2 := fun a b led K => asList b led fun _ ys => likes ys a ∧ K (.at (.bool ((ys.any fun y => same y a) == k))) led
def fInT : F2 := fun a b led K => asT b fun ys => likes (ys.map .at) a ∧ K (.at (.bool ((ys.map AV.at).any fun y => same y a))) led
def fInY : F2 := fun a b led K => asI a fun z => asY b fun y => (0 ≤ z ∧ z < 256) ∧ K (.at (.bool (y.contains z.toNat.toUInt8))) led
def fIsNone : F2 := fun a b led K => asA a fun x => asA b fun y => y = .none ∧ K (.at (.bool (decide (x = .none)))) led
def fIndex : F2 := fun a x led K => asList a led fun _ ys => (likes ys x ∧ small ys) ∧ ogo (ys.findIdx? fun y => same y x) fun j => K (.at (.int j)) led
def f1I (g : Int → Int) : F1 := fun a led K => asI a fun i => K (.at (.int (g i))) led

section
variable {c : Cf} {n : Nat} {S : Sit c} {h : Heap} {rs : List Addr} {a : AV} {v : Value} {C : Prop}
theorem Qt2.sel {t : Value → Value → Sem Value} {k : Nat} {f g : F2} (hf : Qt2 c n t f) (hg : Qt2 c n t g) : Qt2 c n t (sel k f g) := fun S a b va vb ia ib A E Q K hR e P => by
  unfold Og.sel at e
  cases q : Nat.beq (tag a S.led) k <;> rw [q] at e
  · exact hg S a b va vb ia ib hR e P
  · exact hf S a b va vb ia ib hR e P
theorem Ok2.sel {t : Value → Value → Sem Value} {k : Nat} {f g : F2} (hf : Ok2 c n t f) (hg : Ok2 c n t g) : Ok2 c n t (sel k f g) := fun S a b va vb ia ib A E Q K hR e P => by
  unfold Og.sel at e
  cases q : Nat.beq (tag a S.led) k <;> rw [q] at e
  · exact hg S a b va vb ia ib hR e P
  · exact hf S a b va vb ia ib hR e P
theorem Qt2.selR {t : Value → Value → Sem Value} {k : Nat} {f g : F2} (hf : Qt2 c n t f) (hg : Qt2 c n t g) : Qt2 c n t (selR k f g) := fun S a b va vb ia ib A E Q K hR e P => by
  unfold Og.selR at e
  cases q : Nat.beq (tag b S.led) k <;> rw [q] at e
  · exact hg S a b va vb ia ib hR e P
  · exact hf S a b va vb ia ib hR e P
theorem asI_el {K : Int → Prop} (h : asI a K) (i : S.Is a v) (f : ∀ z t, K z → v = .int z t → C) : C := asA_el h fun x e h => by
  rw [e] at i
  cases x with
  | int z => exact i.elim fun t e => f z t h e
  | _ => exact h.elim
theorem asS_el {K : Nat → Prop} (h : asS a K) (i : S.Is a v) (f : ∀ j x t, K j → words[j]? = some x → v = .str x t → C) : C := asA_el h fun x e h => by
  rw [e] at i
  cases x with
  | str j => exact i.elim fun x z => z.elim fun t z => f j x t h z.1 z.2
  | _ => exact h.elim
theorem asY_el {K : List UInt8 → Prop} (h : asY a K) (i : S.Is a v) (f : ∀ b t, K b → v = .bytes b.toArray t → C) : C := asA_el h fun x e h => by
  rw [e] at i
  cases x with
  | bytes b => exact i.elim fun t e => f b t h e
  | _ => exact h.elim
theorem tup_el {K : List At → Prop} (h : asT a K) (i : S.Is a v) (f : ∀ xs r items, K xs → v = .ref r → S.h.IsTuple r items → Paired IsA xs items.toList → C) : C := asT_el h fun x e h => by
  rw [e] at i
  exact i.elim fun r z => z.elim fun items z => f x r items h z.1 z.2.1 z.2.2
theorem q_int2 {t : Value → Value → Sem Value} {g : Int → Int → (At → Prop) → Prop} (H : ∀ {A E s i j t₁ t₂} {G : At → Prop} {Q : Value → Shared → Prop}, g i j G → (∀ k v tk, G k → IsA k v → Q v { s with toks := tk }) → wpAny c.m A (t (.int i t₁) (.int j t₂)) Q E s) : Qt2 c n t (fI g) :=
  fun S a b va vb ia ib A E Q K hR e P => asI_el e ia fun i t1 e e1 => asI_el e ib fun j t2 e e2 => by
    subst e1 e2
    exact H e fun k v tk k1 i1 => P (.at k) v tk k1 i1
theorem q_cmp2 {t : Value → Value → Sem Value} {g : Int → Int → Bool} (H : ∀ {A E s i j t₁ t₂} {Q : Value → Shared → Prop}, Q (.bool (g i j)) s → wpAny c.m A (t (.int i t₁) (.int j t₂)) Q E s) : Qt2 c n t (fC g) :=
  q_int2 fun {A E s i j t₁ t₂ G Q} e P => H (P _ _ s.toks e rfl)
theorem q_add : Qt2 c n (binaryOp .Add) (fI fun i j K => K (.int (i + j))) := q_int2 fun e P => add_int (P _ _ _ e ⟨_, rfl⟩)
theorem q_sub : Qt2 c n (binaryOp .Sub) (fI fun i j K => K (.int (i - j))) := q_int2 fun e P => sub_int (P _ _ _ e ⟨_, rfl⟩)
theorem q_or : Qt2 c n (binaryOp .BitOr) (fI fun i j K => K (.int (Builtin.bitOr i j))) := q_int2 fun e P => or_int (P _ _ _ e ⟨_, rfl⟩)
theorem bits_le {z : Int} (h : z.natAbs < 4611686018427387904) : Builtin.Int.intBits z ≤ 64 := by
  unfold Builtin.Int.intBits
  by_cases q : z.natAbs = 0
  · rw [if_pos (beq_iff_eq.mpr (Int.natAbs_eq_zero.mp q))]; exact Nat.zero_le _
  · split
    · exact Nat.zero_le _
    · exact Nat.le_trans (Nat.succ_le_of_lt ((Nat.log2_lt q).mpr (show z.natAbs < 2 ^ 62 from h))) (by decide)
theorem q_mul : Qt2 c n (binaryOp .Mult) (fI gMul) := q_int2 fun e P => mul_int (P _ _ _ e.2 ⟨_, rfl⟩) (e.1.elim (fun z => .of_left (bits_le z)) fun z => .of_right (bits_le z))
theorem q_div : Qt2 c n (binaryOp .FloorDiv) (fI gDiv) := q_int2 fun e P => floordiv_int e.1.1 (P _ _ _ e.2 ⟨_, rfl⟩) (.inl (PyProof.noPylong_small e.1.2))
theorem q_mod : Qt2 c n (binaryOp .Mod) (fI gMod) := q_int2 fun e P => mod_int' e.1 (P _ _ _ e.2 ⟨_, rfl⟩)
theorem q_pow : Qt2 c n (binaryOp .Pow) (fI gPow) := q_int2 fun e P => pow_int_small e.1.1 e.1.2.1 e.1.2.2 (P _ _ _ e.2 ⟨_, rfl⟩)
theorem q_shl : Qt2 c n (binaryOp .LShift) (fI gShl) := q_int2 fun e P => lshift_int_small e.1.1 e.1.2.1 e.1.2.2 (P _ _ _ e.2 ⟨_, rfl⟩)
theorem q_lt : Qt2 c n (compareOp .Lt) (fC fun i j => decide (i < j)) := q_cmp2 fun q => lt_int q
theorem q_le : Qt2 c n (compareOp .LtE) (fC fun i j => decide (i ≤ j)) := q_cmp2 fun q => le_int q
theorem q_gt : Qt2 c n (compareOp .Gt) (fC fun i j => decide (j < i)) := q_cmp2 fun q => gt_int q
theorem q_ge : Qt2 c n (compareOp .GtE) (fC fun i j => decide (j ≤ i)) := q_cmp2 fun q => ge_int q
theorem q_eq : Qt2 c n (compareOp .Eq) (fC fun i j => i == j) := q_cmp2 fun q => eq_int q
theorem q_ne : Qt2 c n (compareOp .NotEq) (fC fun i j => i != j) := q_cmp2 fun q => ne_int q
theorem beq_t (x : Bool) : x = (x == true) := by cases x <;> rfl
theorem beq_f (x : Bool) : (!x) = (x == false) := by cases x <;> rfl
theorem words_beq {i j : Nat} {x y : Str} (p : words[i]? = some x) (q : words[j]? = some y) : (x == y) = (i == j) := by
  rw [Bool.eq_iff_iff, beq_iff_eq, beq_iff_eq]; exact words_eq p q
theorem q_str2 {k : Bool} {t : Value → Value → Sem Value} (H : ∀ {A E s x y t₁ t₂} {Q : Value → Shared → Prop}, Q (.bool ((x == y) == k)) s → wpAny c.m A (t (.str x t₁) (.str y t₂)) Q E s) : Qt2 c n t (fEqS k) :=
  fun S a b va vb ia ib A E Q K hR e P => asS_el e ia fun i x t1 e w1 e1 => asS_el e ib fun j y t2 e w2 e2 => by
    subst e1 e2
    exact H (P _ _ S.tk e (congrArg Value.bool (by rw [words_beq w1 w2])))
theorem q_eqS : Qt2 c n (compareOp .Eq) (fEqS true) := q_str2 fun q => PyProof.Rows.eq_str (by rwa [← beq_t] at q)
theorem q_neS : Qt2 c n (compareOp .NotEq) (fEqS false) := q_str2 fun q => PyProof.Rows.ne_str (by rwa [← beq_f] at q)
theorem q_neY : Qt2 c n (compareOp .NotEq) fNeY := fun S a b va vb ia ib A E Q K hR e P => asY_el e ia fun x t1 e e1 => asY_el e ib fun y t2 e e2 => by
  subst e1 e2
  exact ne_bytes (P _ _ S.tk e rfl)
theorem q_addY : Qt2 c n (binaryOp .Add) fAddY := fun S a b va vb ia ib A E Q K hR e P => asY_el e ia fun x t1 e e1 => asY_el e ib fun y t2 e e2 => by
  subst e1 e2
  exact KBy.add_bytes (by rw [List.size_toArray, List.size_toArray]; exact Nat.le_trans (Nat.add_le_add e.1.1 e.1.2) (by decide)) fun t k => P _ _ k e.2 ⟨t, congrArg (Value.bytes · t) (List.append_toArray ..)⟩
theorem q_is : Qt2 c n (compareOp .Is) fIsNone := fun S a b va vb ia ib A E Q K hR e P => asA_el e fun x e1 e => asA_el e fun y e2 e => by
  subst e1 e2
  obtain ⟨e1, e2⟩ := e
  subst e1
  cases ib
  refine is_none_gen (P _ _ S.tk e2 (congrArg Value.bool ?_))
  cases x with
  | none => cases ia; rfl
  | bool b => cases ia; rfl
  | str j => obtain ⟨x, t, _, rfl⟩ := ia; rfl
  | _ => obtain ⟨t, rfl⟩ := ia; rfl

/-! equality of plain things -/
theorem eqAt_A {A : Around} {s : Shared} {b : Bool} {x y : At} {vx vy : Value} (kx : ofKind b x = true) (ky : ofKind b y = true) (ix : IsA x vx) (iy : IsA y vy) : EqAt A s vx vy (decide (x = y)) := fun prog w E Q q => eqA kx ky ix iy q
theorem eqAt_like {A : Around} {b : Bool} {x y : AV} {vx vy : Value} (hu : A.units < cLine) (k : like b x y = true) (ix : S.Is x vx) (iy : S.Is y vy) : EqAt A S.s vx vy (same x y) := by
  cases x with
  | «at» p => cases y with
    | «at» q => exact eqAt_A (Bool.and_eq_true_iff.mp k).1 (Bool.and_eq_true_iff.mp k).2 ix iy
    | _ => cases k
  | tup p => cases y with
    | tup q =>
      intro prog w E Q z
      refine key_is (c := ⟨prog, w, c.s₀, c.sys⟩) (Bool.and_eq_true_iff.mp k).1 ix fun r e1 ka => key_is (c := ⟨prog, w, c.s₀, c.sys⟩) (Bool.and_eq_true_iff.mp k).2 iy fun d e2 kb => ?_
      subst e1 e2
      exact wpAny_eqBool_tuple hu ka kb z
    | _ => cases k
  | _ => cases k
theorem all_get {xs : List At} {f : At → Bool} (h : xs.all f = true) {j : Nat} {x : At} (e : xs[j]? = some x) : f x = true := List.all_eq_true.mp h x (List.mem_of_getElem? e)
theorem same_len {xs ys : List At} : ((List.range (min xs.length ys.length)).all (fun j => decide (xs[j]? = ys[j]?)) && xs.length == ys.length) = decide (xs = ys) := by
  rw [Bool.eq_iff_iff, Bool.and_eq_true, List.all_eq_true, beq_iff_eq, decide_eq_true_iff]
  refine ⟨fun ⟨a, b⟩ => List.ext_getElem? fun j => ?_, fun e => ⟨fun j _ => by rw [e]; exact decide_eq_true rfl, by rw [e]⟩⟩
  by_cases z : j < xs.length
  · exact of_decide_eq_true (a j (List.mem_range.mpr (by rw [← b, Nat.min_self]; exact z)))
  · rw [List.getElem?_eq_none (Nat.not_lt.mp z), List.getElem?_eq_none (b ▸ Nat.not_lt.mp z)]
theorem items_eq {A : Around} {s : Shared} {b : Bool} {xs ys : List At} {items items2 : Array Value} (kx : xs.all (ofKind b) = true) (ky : ys.all (ofKind b) = true) (p : Paired IsA xs items.toList) (q : Paired IsA ys items2.toList) :
    ∀ j (h1 : j < items.size) (h2 : j < items2.size), EqAt A s items[j] items2[j] (decide (xs[j]? = ys[j]?)) := fun j h1 h2 => by
  have lx : j < xs.length := p.length ▸ h1
  have ly : j < ys.length := q.length ▸ h2
  have gx := List.getElem?_eq_getElem lx
  have gy := List.getElem?_eq_getElem ly
  refine Paired.get p gx fun u hu iu => Paired.get q gy fun v hv iv => ?_
  rw [Array.getElem?_toList, Array.getElem?_eq_getElem h1] at hu
  rw [Array.getElem?_toList, Array.getElem?_eq_getElem h2] at hv
  have := eqAt_A (s := s) (A := A) (all_get kx gx) (all_get ky gy) iu iv
  rw [← Option.some.inj hu, ← Option.some.inj hv] at this
  rw [gx, gy]
  rwa [show decide (xs[j] = ys[j]) = decide (some xs[j] = some ys[j]) from decide_eq_decide.mpr ⟨congrArg some, Option.some.inj⟩] at this
theorem q_neT : Qt2 c n (compareOp .NotEq) fNeT := fun S a b va vb ia ib A E Q K hR e P => tup_el e ia fun x r items e e1 ha pa => tup_el e ib fun y d items2 e e2 hd pd => by
  subst e1 e2
  obtain ⟨⟨b, k1, k2⟩, e⟩ := e
  have := RcNeAt.tuples (A := A) (s := S.s) ha hd (hR.u1 (k := 0) (by decide)) (items_eq k1 k2 pa pd)
  rw [show items.size = x.length from pa.length.symm, show items2.size = y.length from pd.length.symm, same_len] at this
  exact this c.prog c.w E Q (P _ _ S.tk e rfl)
theorem q_eqL : Qt2 c n (compareOp .Eq) fEqL := fun S a b va vb ia ib A E Q K hR e P => list_el e ia fun _ r xs items m e e1 _ ga pa => list_el e ib fun _ d ys items2 m2 e e2 _ gd pd => asAs_el pa e fun x pa e => asAs_el pd e fun y pd e => by
  subst e1 e2
  obtain ⟨⟨l, b, k1, k2⟩, e⟩ := e
  have e3 : items.size = items2.size := pa.length.symm.trans (l.trans pd.length)
  refine eq_listAt (isList ga) (isList gd) e3 (hR.u1 (k := 0) (by decide)) (items_eq k1 k2 pa pd) (P _ _ S.tk e (congrArg Value.bool ?_))
  rw [← same_len, l, Nat.min_self, beq_self_eq_true, Bool.and_true, show items.size = y.length from pa.length.symm.trans l]
/-- who among them is x -/
noncomputable def hits (S : Sit c) (x : AV) (v : Value) : Bool := @decide (S.Is x v) (Classical.propDecidable _)
theorem codes {xs : List At} {vs : List Value} (p : Paired IsA xs vs) : vs.map code = xs := by
  induction p with
  | nil => rfl
  | cons a _ ih => rw [List.map_cons, ih, code_is a]
theorem same_eq {x y : AV} : same x y = true → x = y := by
  cases x <;> cases y <;> first | exact fun k => congrArg _ (of_decide_eq_true k) | exact fun k => nomatch k
theorem hits_is {b : Bool} {x y : AV} {v : Value} (k : like b y x = true) (i : S.Is y v) : hits S x v = same y x := by
  by_cases e : same y x = true
  · rw [e]; exact @decide_eq_true _ (Classical.propDecidable _) (same_eq e ▸ i)
  · rw [Bool.eq_false_iff.mpr e]
    refine @decide_eq_false _ (Classical.propDecidable _) fun ix => e ?_
    cases y with
    | «at» p => cases x with
      | «at» q => exact decide_eq_true ((code_is i).symm.trans (code_is ix))
      | _ => cases k
    | tup p => cases x with
      | tup q =>
        obtain ⟨r, items, rfl, ⟨o, g, _, n, d⟩, p1⟩ := i
        obtain ⟨r, items', e, ⟨o', g', _, n', d'⟩, p2⟩ := ix
        cases e
        rw [g] at g'; cases g'
        rw [d] at d'; cases d'
        exact decide_eq_true ((codes p1).symm.trans (codes p2))
      | _ => cases k
    | _ => cases k
theorem hits_any {b : Bool} {x : AV} {ys : List AV} {vs : List Value} (p : S.IsL ys vs) (k : ys.all (fun y => like b y x) = true) : vs.any (hits S x) = ys.any (fun y => same y x) := by
  induction p with
  | nil => rfl
  | cons i _ ih =>
    rw [List.all_cons, Bool.and_eq_true] at k
    rw [List.any_cons, List.any_cons, hits_is k.1 i, ih k.2]
theorem hits_at {A : Around} {b : Bool} {x : AV} {ys : List AV} {items : Array Value} {vx : Value} (hu : A.units < cLine) (p : S.IsL ys items.toList) (k : ys.all (fun y => like b y x) = true) (ix : S.Is x vx) : ∀ v ∈ items, EqAt A S.s v vx (hits S x v) := fun v m => by
  have m := Array.mem_toList_iff.mpr m
  revert p m
  generalize items.toList = vs
  intro p m
  induction p with
  | nil => cases m
  | cons i _ ih =>
    rw [List.all_cons, Bool.and_eq_true] at k
    rcases List.mem_cons.mp m with rfl | m
    · rw [hits_is k.1 i]; exact eqAt_like hu k.1 i ix
    · exact ih k.2 m
theorem Room.ui {n : Nat} {A : Around} (R : Room n A) : A.in1.units < cLine := R.u1 (k := 1) (by decide)
theorem q_in : Qt2 c n (compareOp .In) (fInL true) := fun S a b va vb ia ib A E Q K hR e P => list_el e ib fun _ r ys items m e e1 _ g p => by
  subst e1
  obtain ⟨⟨b, k⟩, e⟩ := e
  exact in_listAt (hits S a) (isList g) (hits_at hR.ui p k ia) (P _ _ S.tk e (by rw [← Array.any_toList, hits_any p k]; exact congrArg Value.bool (beq_t _)))
theorem q_notIn : Qt2 c n (compareOp .NotIn) (fInL false) := fun S a b va vb ia ib A E Q K hR e P => list_el e ib fun _ r ys items m e e1 _ g p => by
  subst e1
  obtain ⟨⟨b, k⟩, e⟩ := e
  exact notIn_listAt (hits S a) (isList g) (hits_at hR.ui p k ia) (P _ _ S.tk e (by rw [← Array.any_toList, hits_any p k]; exact congrArg Value.bool (beq_f _)))
theorem q_inT : Qt2 c n (compareOp .In) fInT := fun S a b va vb ia ib A E Q K hR e P => tup_el e ib fun ys r items e e1 ht p => by
  subst e1
  obtain ⟨⟨b, k⟩, e⟩ := e
  have p : S.IsL _ _ := IsT.atoms p
  exact in_tupleAt (hits S a) ht (hits_at hR.ui p k ia) (P _ _ S.tk e (by rw [← Array.any_toList, hits_any p k]; rfl))
theorem index_bytes (z : Int) (u : Tok) : (asIndex (.int z u)).attempt = pure (.ok z) := by kernel_rfl
theorem buffer_bytes (b : Array UInt8) (t : Tok) (id : String) : Builtin.Bytes.buffer? id (.bytes b t) = pure (some b) := by kernel_rfl
theorem gives_inY {b : Array UInt8} {t u : Tok} {z : Int} (h0 : 0 ≤ z) (h1 : z < 256) : Gives (Builtin.«bytes.__contains__» ⟨[.bytes b t, .int z u], []⟩) (.val (.bool (b.contains z.toNat.toUInt8))) := by
  refine Gives.of_eq ?_
  show (Builtin.Bytes.containsIn "bytes.__contains__" (.bytes b t) (.int z u) >>= fun r => ret (.bool r)) = _
  unfold Builtin.Bytes.containsIn
  rw [index_bytes, buffer_bytes]
  show ((if (decide (z < 0) || decide (z ≥ 256)) = true then _ else _) >>= _) = _
  rw [if_neg (by rw [decide_eq_false (Int.not_lt.mpr h0), decide_eq_false (Int.not_le.mpr h1)]; decide)]
  rfl
theorem q_inY : Qt2 c n (compareOp .In) fInY := fun S a b va vb ia ib A E Q K hR e P => asI_el e ia fun z t e e1 => asY_el e ib fun y u e e2 => by
  subst e1 e2
  exact in_gives (PySem.W.typeIs_bytes S.s _ _) FB.slot_bytes_contains FB.entry_bytes_contains (FB.args_bytes_contains_2 _ _) (gives_inY e.1.1 e.1.2) (P _ _ S.tk e.2 (by rw [List.contains_toArray]; rfl))
end
end Og
end

section
open PySem PySem.W PySem.Calls PyProof.Rows PySem.SeqAt
set_option Elab.async false
set_option linter.unusedVariables false
set_option genSizeOf false
set_option genInjectivity false
namespace Og

def asTab (a : AV) (K : List (List At) → Prop) : Prop := AV.casesOn a (fun _ => False) (fun _ => False) K (fun _ _ => False) (fun _ => False) (fun _ => False)
def nth {α : Type} (xs : List α) (z : Int) (K : α → Prop) : Prop := (0 ≤ z ∧ z < 4611686018427387904) ∧ ogo xs[z.toNat]? K
def fItT : F2 := fun a b led K => asT a fun xs => asI b fun z => nth xs z fun x => K (.at x) led
def fItTab : F2 := fun a b led K => asTab a fun xs => asI b fun z => nth xs z fun x => K (.tup x) led
def fItL : F2 := fun a b led K => asList a led fun _ xs => asI b fun z => two (decide (z = -1)) (ogo xs[xs.length - 1]? fun x => K x led) (nth xs z fun x => K x led)
def fItS : F2 := fun a b led K => asSD a led fun _ es => asS b fun j => ogo (look es j) fun e => K e.2 led
def fItD : F2 := fun a b led K => asDict a led fun _ t es => asT b fun k => k.all (ofKind t) = true ∧ ogo (look es k) fun e => K (.at (.int e.2)) led
def fItY : F2 := fun a b led K => asY a fun xs => asI b fun z => small xs ∧ nth xs z fun x => K (.at (.int x.toNat)) led
def fItem : F2 := sel 5 fItT (sel 8 fItL (sel 9 fItS (sel 10 fItD (sel 6 fItTab fItY))))
def fInD (k : Bool) : F2 := fun a b led K => asDict b led fun _ t es => asT a fun x => x.all (ofKind t) = true ∧ K (.at (.bool ((look es x).isSome == k))) led
def fPutD : F3 := fun o x v led K => asDict o led fun i t es => asT x fun k => asI v fun z => (k.all (ofKind t) = true ∧ small es) ∧ K (led.set i (.dict t (put k z es)))
def fPutS : F3 := fun o x v led K => asSD o led fun i es => asS x fun j => small es ∧ K (led.set i (.sdict (put j v es)))
def fPut : F3 := fun a b d led K => two (Nat.beq (tag a led) 9) (fPutS a b d led K) (fPutD a b d led K)
def fAppend : F2 := fun a x led K => asList a led fun i xs => small xs ∧ K (.at .none) (led.set i (.list (xs ++ [x])))
def popAt (k : List AV → Nat) : F1 := fun a led K => asList a led fun i xs => small xs ∧ ogo xs[k xs]? fun v => K v (led.set i (.list (xs.eraseIdx (k xs))))
def fPop : F1 := popAt fun xs => xs.length - 1
def fPop0 : F2 := fun a z led K => asI z fun z => z = 0 ∧ popAt (fun _ => 0) a led K
def fDPop : F2 := fun a x led K => asDict a led fun i t es => asT x fun k => (k.all (ofKind t) = true ∧ small es) ∧ ogo (look es k) fun e => K (.at (.int e.2)) (led.set i (.dict t (es.filter fun e => !decide (e.1 = k))))

section
variable {c : Cf} {n : Nat} {S : Sit c} {h : Heap} {rs : List Addr} {a : AV} {v : Value} {C : Prop}
theorem asTab_el {a : AV} {K : List (List At) → Prop} {C : Prop} (h : asTab a K) (f : ∀ x, a = .tab x → K x → C) : C := by
  cases a with
  | tab x => exact f x rfl h
  | _ => exact h.elim
theorem nth_el {α : Type} {F : α → Value → Prop} {xs : List α} {items : Array Value} {z : Int} {K : α → Prop} (h : nth xs z K) (p : Paired F xs items.toList) (f : ∀ x v, K x → 0 ≤ z → z < 2 ^ 63 → z < items.size → items[z.toNat]? = some v → F x v → C) : C :=
  ogo_el h.2 fun x e k => Paired.get p e fun v e2 i => by
    rw [Array.getElem?_toList] at e2
    exact f x v k h.1.1 (Int.lt_trans h.1.2 (by decide)) (by rw [← Int.toNat_of_nonneg h.1.1]; exact Int.ofNat_lt.mpr (Array.getElem?_eq_some_iff.mp e2).1) e2 i
theorem Paired.find {α β : Type} {F : α → β → Prop} {f : α → Bool} {g : β → Bool} {xs : List α} {ys : List β} (p : Paired F xs ys) (hfg : ∀ x y, F x y → f x = g y) : ∀ {x}, xs.find? f = some x → ∃ y, ys.find? g = some y ∧ F x y := by
  induction p with
  | nil => intro x e; cases e
  | cons a _ ih =>
    intro x e
    rw [List.find?_cons] at e ⊢
    rw [← hfg _ _ a]
    split at e
    · cases e; exact ⟨_, rfl, a⟩
    · exact ih e
theorem sent_same {j : Nat} {x : Str} (hx : words[j]? = some x) : ∀ (e : Nat × AV) (kv : Str × Value), SEnt c h rs e kv → decide (e.1 = j) = decide (kv.1 = x) := fun e kv i =>
  decide_eq_decide.mpr ((words_eq i.1 hx).symm)
theorem hent_same {k : List At} : ∀ (e : List At × Int) (kv : List At × Addr × Value), HEnt e kv → decide (e.1 = k) = decide (kv.1 = k) := fun e kv i => by rw [i.1]
theorem roomT {b : Bool} {A : Around} (hR : Room n A) : (tupleKind (kd c b)).room A.in1 := hR.ui
theorem atKey_look {es : List (List At × Int)} {kvs : List (List At × Addr × Value)} (p : Paired HEnt es kvs) {k : List At} {e : List At × Int} (q : look es k = some e) : ∃ y, atKey kvs k = some y ∧ IsA (.int e.2) y.2 := by
  obtain ⟨y, e2, i⟩ := Paired.find p hent_same q
  exact ⟨y.2, by unfold atKey; rw [e2]; rfl, i.2⟩
theorem Paired.any {α β : Type} {F : α → β → Prop} {f : α → Bool} {g : β → Bool} {xs : List α} {ys : List β} (p : Paired F xs ys) (hfg : ∀ x y, F x y → f x = g y) : xs.any f = ys.any g := by
  induction p with
  | nil => rfl
  | cons a _ ih => rw [List.any_cons, List.any_cons, hfg _ _ a, ih]
theorem find_any {α : Type} {xs : List α} {f : α → Bool} : (xs.find? f).isSome = xs.any f := by rw [Bool.eq_iff_iff, List.find?_isSome, List.any_eq_true]
theorem atKey_any {kvs : List (List At × Addr × Value)} {k : List At} : (atKey kvs k).isSome = kvs.any fun e => decide (e.1 = k) := by unfold atKey; rw [Option.isSome_map, find_any]
theorem atKey_some {es : List (List At × Int)} {kvs : List (List At × Addr × Value)} (p : Paired HEnt es kvs) {k : List At} : (atKey kvs k).isSome = (look es k).isSome := by
  rw [atKey_any, look, find_any, Paired.any p hent_same]
/-- a key's place -/
theorem key_el {t : Bool} {a : AV} {K : List At → Prop} (h : asT a K) (i : S.Is a v) (k : ∀ x, K x → x.all (ofKind t) = true) (f : ∀ x ka, K x → v = .ref ka → IsTupleKey (kd c t) S.h x ka → C) : C :=
  asT_el h fun x e h => by
    rw [e] at i
    exact key_is (c := c) (k x h) i fun ka e hk => f x ka h e hk
section
variable {value slice : Expr} (hs : ∀ o i, ∃ ops, subscripted slice false o i = operate ops (getItem o i))
include hs
theorem q_itT : Qt2 c n (subscriptTail value slice) fItT := fun S a b va vb ia ib A E Q K hR e P => tup_el e ia fun xs r items e e1 ht p => asI_el e ib fun z u e e2 => nth_el e p fun x v k h0 h1 h2 e3 i => by
  subst e1 e2
  obtain ⟨ops, ho⟩ := hs (.ref r) (.int z u)
  exact tail_any ht.typeIs slot_tuple_getitem.lookup (PyProof.Rows.getItem_tuple ht (Int.le_trans (by decide) h0) h1 (seqIndex_of h0 h2) e3 (P (.at x) _ S.tk k i)) ho
theorem q_itTab : Qt2 c n (subscriptTail value slice) fItTab := fun S a b va vb ia ib A E Q K hR e P => asTab_el e fun xs e0 e => asI_el e ib fun z u e e2 => by
  subst e2
  rw [e0] at ia
  obtain ⟨r, items, rfl, ht, p⟩ := ia
  exact nth_el e p fun x v k h0 h1 h2 e3 i => by
    obtain ⟨ops, ho⟩ := hs (.ref r) (.int z u)
    exact tail_any ht.typeIs slot_tuple_getitem.lookup (PyProof.Rows.getItem_tuple ht (Int.le_trans (by decide) h0) h1 (seqIndex_of h0 h2) e3 (P (.tup x) _ S.tk k i)) ho
theorem q_itL : Qt2 c n (subscriptTail value slice) fItL := fun S a b va vb ia ib A E Q K hR e P => list_el e ia fun _ r xs items m e e1 _ g p => asI_el e ib fun z u e e2 => by
  subst e1 e2
  obtain ⟨ops, ho⟩ := hs (.ref r) (.int z u)
  by_cases hz : z = -1
  · rw [decide_eq_true hz] at e
    subst hz
    refine ogo_el e fun x e k => Paired.get p e fun v e2 i => ?_
    rw [Array.getElem?_toList] at e2
    have lt := (Array.getElem?_eq_some_iff.mp e2).1
    rw [p.length, Array.length_toList] at lt e2
    have h1 : 1 ≤ items.size := Nat.lt_of_le_of_lt (Nat.zero_le _) lt
    refine tail_any (isList g).typeIs slot_list_getitem.lookup (wpAny_getItem_list_neg (isList g) (by decide) (Int.neg_le_neg (Int.ofNat_le.mpr h1)) (by decide) (x := v) ?_ (P x _ S.tk k i)) ho
    rw [show ((-1 : Int) + items.size).toNat = items.size - 1 by omega]
    exact e2
  · rw [decide_eq_false hz] at e
    exact nth_el (K := fun x => K x S.led) e p fun x v k h0 h1 h2 e3 i => tail_any (isList g).typeIs slot_list_getitem.lookup (wpAny_getItem_list (isList g) h0 h1 e3 (P x _ S.tk k i)) ho
theorem q_itS : Qt2 c n (subscriptTail value slice) fItS := fun S a b va vb ia ib A E Q K hR e P => sdict_el e ia fun _ r es kvs e e1 _ g p => asS_el e ib fun j x t e hx e2 => ogo_el e fun y e3 k => by
  subst e1 e2
  obtain ⟨ops, ho⟩ := hs (.ref r) (.str x t)
  obtain ⟨kv, e2, i⟩ := Paired.find p (sent_same hx) e3
  exact tail_any g.typeIs slot_dict_getitem.lookup (wpAny_getItem_of (strKind_is c.prog c.w x t) g.mapOf (v := kv.2) (by unfold valueAt; rw [e2]; rfl) (P y.2 _ _ k i.2)) ho
theorem q_itD : Qt2 c n (subscriptTail value slice) fItD := fun S a b va vb ia ib A E Q K hR e P => dict_el e ia fun _ r t es kvs e e1 _ g p => key_el e ib (fun x z => z.1) fun x ka e e2 hk => ogo_el e.2 fun y e3 k => by
  subst e1 e2
  obtain ⟨ops, ho⟩ := hs (.ref r) (.ref ka)
  obtain ⟨z, e4, i⟩ := atKey_look p e3
  exact tail_any g.typeIs slot_dict_getitem.lookup (wpAny_getItem_heap (roomT hR) hk g e4 (P (.at (.int y.2)) _ _ k i)) ho
theorem q_itY : Qt2 c n (subscriptTail value slice) fItY := fun S a b va vb ia ib A E Q K hR e P => asY_el e ia fun xs t e e1 => asI_el e ib fun z u e e2 => ogo_el e.2.2 fun x e3 k => by
  subst e1 e2
  obtain ⟨ops, ho⟩ := hs (.bytes xs.toArray t) (.int z u)
  have h0 := e.2.1.1
  refine tail_any (typeIs_bytes S.s _ _) FB.slot_bytes_getitem.lookup (getItem_bytes (Nat.le_trans e.1 (by decide)) h0 (by rw [← Int.toNat_of_nonneg h0]; exact Int.ofNat_lt.mpr (List.getElem?_eq_some_iff.mp e3).1) (P (.at (.int x.toNat)) _ (S.tk + 1) k ⟨S.tk, ?_⟩)) ho
  rw [List.getD_eq_getElem?_getD, e3]; rfl
theorem q_tail : Qt2 c n (subscriptTail value slice) fItem := .sel (q_itT hs) (.sel (q_itL hs) (.sel (q_itS hs) (.sel (q_itD hs) (.sel (q_itTab hs) (q_itY hs)))))
end

theorem Paired.putIn {α β : Type} {P : α → β → Prop} {f : α → Bool} {g : β → Bool} {F : α → α} {G : β → β} {x : α} {y : β} {xs : List α} {ys : List β} (p : Paired P xs ys) (hfg : ∀ x y, P x y → f x = g y) (hF : ∀ x y, P x y → P (F x) (G y)) (h : P x y) : Paired P (putIn f F x xs) (putIn g G y ys) := by
  unfold Og.putIn
  rw [← Paired.any p hfg]
  by_cases q : xs.any f = true
  · rw [if_pos q, if_pos q]
    clear q
    induction p with
    | nil => exact .nil
    | cons a _ ih => exact .cons (hF _ _ a) ih
  · rw [if_neg q, if_neg q]
    exact Paired.append p (.cons h .nil)
theorem if_pair {α β : Type} {P : α → β → Prop} {p q : Prop} [Decidable p] [Decidable q] (e : decide p = decide q) {x x' : α} {y y' : β} (h : P x y) (h' : P x' y') : P (if p then x else x') (if q then y else y') := by
  by_cases z : p
  · rw [if_pos z, if_pos (of_decide_eq_true (e.symm.trans (decide_eq_true z)))]; exact h
  · rw [if_neg z, if_neg (of_decide_eq_false (e.symm.trans (decide_eq_false z)))]; exact h'
theorem q_inD : Qt2 c n (compareOp .In) (fInD true) := fun S a b va vb ia ib A E Q K hR e P => dict_el e ib fun _ r t es kvs e e1 hi g p => key_el e ia (fun x z => z.1) fun x ka e e2 hk => by
  subst e1 e2
  exact wpAny_in_heap (roomT hR) hk (S.rep.sys hi) g (P _ _ _ e.2 (by rw [atKey_some p]; exact congrArg Value.bool (beq_t _)))
theorem q_notInD : Qt2 c n (compareOp .NotIn) (fInD false) := fun S a b va vb ia ib A E Q K hR e P => dict_el e ib fun _ r t es kvs e e1 hi g p => key_el e ia (fun x z => z.1) fun x ka e e2 hk => by
  subst e1 e2
  exact wpAny_notIn_heap (roomT hR) hk (S.rep.sys hi) g (P _ _ _ e.2 (by rw [atKey_some p]; exact congrArg Value.bool (beq_f _)))
theorem storedH_put {kvs : List (List At × Addr × Value)} {k : List At} {a : Addr} {v : Value} : storedH kvs k a v = putIn (fun e => decide (e.1 = k)) (putAt k v) (k, a, v) kvs := by
  unfold storedH putIn
  rw [atKey_any]
theorem put_dict : Ok3 c n (fun a x v => setItem a x v) fPutD := fun S o x v vo vx vv io ix iv A E Q K hR e P => dict_el e io fun j r t es kvs e e1 hi g p => key_el (t := t) e ix (fun x z => asI_el z iv fun _ _ z _ => z.1.1) fun x ka e e2 hk => asI_el e iv fun z u e e3 => by
  subst e1 e2 e3
  refine wpAny_setItem_heap (roomT hR) hk g (fun h' hd' hs => ?_) (p.length ▸ small_le e.1.2)
  rw [storedH_put] at hd'
  have L := Le.set (ao := .dict t _) hi (kpA hs) ⟨_, hd', Paired.putIn p hent_same (x := (x, z)) (fun e kv y => if_pair (hent_same _ _ y) (x := (e.1, z)) (y := (kv.1, kv.2.1, .int z u)) ⟨y.1, ⟨u, rfl⟩⟩ y) ⟨rfl, ⟨u, rfl⟩⟩⟩ (S.tk + (tupleKind (kd c t)).draws x)
  exact P (S.set hi (kpA hs) _ _) () () L e.2 trivial
theorem put_sdict : Ok3 c n (fun a x v => setItem a x v) fPutS := fun S o x v vo vx vv io ix iv A E Q K hR e P => sdict_el e io fun j r es kvs e e1 hi g p => asS_el e ix fun jx w t e hw e2 => by
  subst e1 e2
  refine wpAny_setItem_pairs (strKind_is c.prog c.w w t) g (fun h' hd' hs => ?_) (p.length ▸ small_le e.1)
  have M := S.rep.mvS hi (kpA hs)
  have L := Le.set (ao := .sdict _) hi (kpA hs) ⟨_, hd', Paired.putIn (sent_mono M p) (sent_same hw) (x := (jx, v)) (y := (w, vv)) (fun e kv z => if_pair (sent_same hw _ _ z) (x := (e.1, v)) (y := (kv.1, vv)) ⟨z.1, iv.mono M⟩ z) ⟨hw, iv.mono M⟩⟩ (S.tk + 1)
  exact P (S.set hi (kpA hs) _ _) () () L e.2 trivial
theorem put_ok : Ok3 c n (fun a x v => setItem a x v) fPut := fun S o x v vo vx vv io ix iv A E Q K hR e P => by
  unfold fPut at e
  cases q : Nat.beq (tag o S.led) 9 <;> rw [q] at e
  · exact put_dict S o x v vo vx vv io ix iv hR e P
  · exact put_sdict S o x v vo vx vv io ix iv hR e P
theorem list_to {j : Nat} {d : Addr} {xs : List AV} {items : Array Value} {k tk : Nat} {h' : Heap} {r : AV} {K : KV} {Q : Value → Shared → Prop} (hi : S.rs[j]? = some d) (hs : Heap.SameBut d S.h h') (g : h'.get? d = some (PySem.W.listOf items k)) (p : S.IsL xs items.toList)
    (P : ∀ S' r v, Le noX S S' → K r S'.led → S'.Is r v → Q v S'.s) (e : K r (S.led.set j (.list xs))) (i : S.Is r v) : Q v { c.s₀ with heap := h', toks := tk } :=
  have M := S.rep.mvS hi (kpA hs)
  have o : ObjIs c h' S.rs (.list xs) d := ⟨items, k, g, IsL.mono M p⟩
  P (S.set hi (kpA hs) o tk) r v (.set hi (kpA hs) o tk) e (i.mono M)
theorem append_ok : Ok2 c n (fun u v => call (.builtin "list.append") [u, v]) fAppend := fun S a x va vx ia ix A E Q K hR e P => list_el e ia fun j d xs items m e e1 hi g p => by
  subst e1
  refine wpAny_list_append_plain (items := items) ⟨m, g⟩ (fun h' ⟨k', g'⟩ hs => ?_) (by rw [← Array.length_toList, ← p.length]; exact small_le e.1)
  exact list_to (tk := S.tk) hi hs g' (by rw [Array.toList_push]; exact Paired.append p (.cons ix .nil)) P e.2 rfl
theorem Paired.erase {α β : Type} {F : α → β → Prop} {xs : List α} {ys : List β} (p : Paired F xs ys) : ∀ k, Paired F (xs.eraseIdx k) (ys.eraseIdx k) := by
  induction p with
  | nil => intro k; exact .nil
  | cons a p ih =>
    intro k
    cases k with
    | zero => exact p
    | succ k => exact .cons a (ih k)
theorem erase_list (items : Array Value) (k : Nat) : (items.eraseIdxIfInBounds k).toList = items.toList.eraseIdx k := by
  obtain ⟨l⟩ := items
  rw [List.eraseIdxIfInBounds_toArray]
theorem pop_any {k : List AV → Nat} {va : Value} {A : Around} {E Q : Value → Shared → Prop} {t : Sem Value} {K : KV} (ia : S.Is a va) (e : popAt k a S.led K) (P : ∀ S' r v, Le noX S S' → K r S'.led → S'.Is r v → Q v S'.s)
    (H : ∀ d (items : Array Value) j (xs : List AV) v, va = .ref d → S.h.get? d = some (PySem.W.listOf items j) → xs.length = items.size → items.size ≤ sizeLine → items[k xs]? = some v →
      Q v { S.s with heap := S.h.update d (Obj.mapSeq fun xs' => xs'.eraseIdxIfInBounds (k xs)) } → wpAny c.m A t Q E S.s) : wpAny c.m A t Q E S.s :=
  list_el e ia fun i d xs items j e e1 hi g p => ogo_el e.2 fun v e3 k1 => Paired.get p e3 fun y e5 iy => by
    rw [Array.getElem?_toList] at e5
    have hz : xs.length = items.size := p.length
    exact H d items j xs y e1 g hz (hz ▸ small_le e.1) e5 (list_to (tk := S.tk) hi (Heap.SameBut.update _ _ _) (PySem.IsL.update g _) (by rw [erase_list]; exact Paired.erase p (k xs)) P k1 iy)
theorem pop_ok : Ok1 c n (fun v => call (.builtin "list.pop") [v]) fPop := fun S a va ia A E Q K hR e P =>
  pop_any ia e P fun d items j xs v e1 g hl hz hv q => by
    subst e1
    rw [hl] at hv q
    exact call_meets PySem.F.slot_list_pop (isList g).typeIs PySem.F.entry_list_pop (PySem.F.args_list_pop_1 _) (MeetsSeq.list_pop_last d items j v hv hz) ⟨g, q⟩
theorem pop0_ok : Ok2 c n (fun u v => call (.builtin "list.pop") [u, v]) fPop0 := fun S a z va vz ia iz A E Q K hR e P => asI_el e iz fun y u e e2 => by
  subst e2
  obtain ⟨rfl, e⟩ := e
  exact pop_any ia e P fun d items j xs v e1 g hl hz hv q => by
    subst e1
    exact call_meets PySem.F.slot_list_pop (isList g).typeIs PySem.F.entry_list_pop (PySem.F.args_list_pop_2 _ _) (MeetsSeq.list_pop_at d items j 0 u 0 v (by decide) (seqIndex_of (by decide) (Int.ofNat_lt.mpr (Array.getElem?_eq_some_iff.mp hv).1)) hv hz) ⟨g, q⟩
theorem erase_key {V W : Type} [DecidableEq V] {xs : List (V × W)} {k : V} {q : W} (hn : (xs.map (·.1)).Nodup) : ∀ {j : Nat}, xs[j]? = some (k, q) → xs.eraseIdx j = xs.filter fun e => !decide (e.1 = k) := by
  induction xs with
  | nil => intro j e; cases e
  | cons x r ih =>
    intro j e
    rw [List.map_cons, List.nodup_cons] at hn
    cases j with
    | zero =>
      cases e
      rw [List.filter_cons_of_neg (by rw [decide_eq_true rfl]; decide)]
      refine (List.filter_eq_self.mpr fun y hy => ?_).symm
      have : y.1 ≠ k := fun z => hn.1 (z ▸ List.mem_map_of_mem (f := (·.1)) (show y ∈ r from hy))
      rw [decide_eq_false this]; rfl
    | succ j =>
      have : x.1 ≠ k := fun z => hn.1 (z ▸ List.mem_map_of_mem (f := (·.1)) (List.mem_of_getElem? (l := r) e))
      rw [List.filter_cons_of_pos (by rw [decide_eq_false this]; rfl), List.eraseIdx_cons_succ, ih hn.2 e]
theorem Paired.filter {α β : Type} {P : α → β → Prop} {f : α → Bool} {g : β → Bool} {xs : List α} {ys : List β} (p : Paired P xs ys) (hfg : ∀ x y, P x y → f x = g y) : Paired P (xs.filter f) (ys.filter g) := by
  induction p with
  | nil => exact .nil
  | cons a _ ih =>
    rw [List.filter_cons, List.filter_cons, ← hfg _ _ a]
    split
    · exact .cons a ih
    · exact ih
theorem map_erase {α β : Type} (f : α → β) (xs : List α) : ∀ j, (xs.eraseIdx j).map f = (xs.map f).eraseIdx j := by
  induction xs with
  | nil => intro j; rfl
  | cons x r ih =>
    intro j
    cases j with
    | zero => rfl
    | succ j => exact congrArg (f x :: ·) (ih j)
theorem dpop_ok : Ok2 c n (fun u v => call (.builtin "dict.pop") [u, v]) fDPop := fun S a x va vx ia ix A E Q K hR e P => dict_el e ia fun i d b es kvs e e1 hi hd p => key_el e ix (fun x z => z.1.1) fun k ka e e2 hka => ogo_el e.2 fun y e7 k1 => by
  subst e1 e2
  obtain ⟨kv, hat, iv⟩ := atKey_look p e7
  refine wpAny_call_entry PySem.F.slot_dict_pop hd.typeIs PySem.F.entry_dict_pop ?_ (PySem.F.args_dict_pop_2 _ _)
  obtain ⟨o, xs, ep, ho, hc, hda, he, his, hn⟩ := id hd
  unfold Builtin.«dict.pop»
  refine wpAny_bind ?_
  unfold Builtin.Dict.keyAndDefault
  refine wpAny_bind (wpAny_notOrdered_dict hd.typeIs ?_)
  show wpAny _ _ (pure (d, Value.ref ka, none)) _ _ S.s
  refine wpAny_pure ?_
  show wpAny _ _ (dictEntries d >>= _) _ _ S.s
  refine wpAny_bind (wpAny_dictEntries ho hda ?_)
  refine wpAny_bind (wpAny_pure ?_)
  show wpAny _ _ (if xs.isEmpty = true then _ else _) _ _ S.s
  rw [if_neg (by
    intro z
    rw [Array.isEmpty_iff] at z
    rw [z] at he
    rw [List.map_eq_nil_iff.mp he.symm] at hat; cases hat)]
  refine wpAny_bind ?_
  unfold Builtin.Dict.takeOut
  refine wpAny_holding (wpAny_bind ((tupleKind (kd c b)).pyHash (roomT hR) hka (wpAny_bind (wpAny_dictFind_heap (s := { S.s with toks := S.tk + (tupleKind (kd c b)).draws k }) (roomT hR) hka ho hda he his hn (fun z => ?_) fun j q hj => ?_))))
  · rw [atKey_none_of_get z] at hat; cases hat
  · refine wpAny_bind (wpAny_dictEntries (s := { S.s with toks := S.tk + (tupleKind (kd c b)).draws k }) ho hda ?_)
    rw [entry_at he j, hj]
    have hz : kvs.length ≤ sizeLine := p.length ▸ small_le e.1.2
    have hs := Heap.SameBut.update (h := S.h) (a := d) (f := Obj.mapDictKeys fun es => es.eraseIdxIfInBounds j)
    refine wpAny_bind (wpAny_updateDictKeys (hz := by rw [size_of_entries he]; exact hz) (hf := Nat.le_succ_of_le (size_eraseIdxIfInBounds_le _ _)) (s := { S.s with toks := S.tk + (tupleKind (kd c b)).draws k }) ho hda (wpAny_pure ?_))
    refine wpAny_bind (wpAny_letGo (wpAny_pure ⟨_, rfl, ?_⟩))
    cases Option.some.inj ((atKey_of_get hn hj).symm.trans hat)
    have hd' : (S.h.update d (Obj.mapDictKeys fun es => es.eraseIdxIfInBounds j)).DictOfH (tupleKind (kd c b)) d (kvs.filter fun e => !decide (e.1 = k)) := by
      refine ⟨_, _, ep + 1, Heap.get?_update_self _ ho (Obj.isFreed_of_dict (Obj.data_mapDictKeys hda _)), hc.mapDictKeys _, Obj.data_mapDictKeys hda _, ?_, fun x hx => (tupleKind (kd c b)).keeps (his x (List.mem_filter.mp hx).1) ho hda hs, ?_⟩
      · rw [← erase_key hn hj]
        obtain ⟨l⟩ := xs
        rw [List.eraseIdxIfInBounds_toArray]
        show l.eraseIdx j = _
        rw [show l = kvs.map _ from he]
        exact (map_erase _ kvs j).symm
      · exact hn.sublist (List.Sublist.map _ List.filter_sublist)
    have L := Le.set (ao := .dict b _) hi (kpA hs) ⟨_, hd', Paired.filter p fun e z i => congrArg Bool.not (hent_same _ _ i)⟩ (S.tk + (tupleKind (kd c b)).draws k)
    exact P (S.set hi (kpA hs) _ _) _ _ L k1 iv
end
end Og
end

section
open PySem PySem.W PySem.Calls PyProof.Rows PySem.SeqAt
set_option Elab.async false
set_option linter.unusedVariables false
set_option genSizeOf false
set_option genInjectivity false
namespace Og

def pick {α : Type} (lo hi st : Option Int) (xs : List α) : List α := (sliceRange (sliceBounds lo hi st xs.length).1 (sliceBounds lo hi st xs.length).2.1 (sliceBounds lo hi st xs.length).2.2).filterMap (xs[·]?)
def asSeq (a : AV) (led : Led) (K : List AV → Prop) : Prop := AV.casesOn a (fun _ => False) (fun _ => False) (fun _ => False) (fun _ _ => False) (fun i => ogo led[i]? fun ao => aoL ao K) (fun ns => K (ns.map fun z => .at (.int z)))
def fSlice (lo hi st : Option Int) : F1 := fun a led K => asSeq a led fun xs => small xs ∧ K (.obj led.length) (led ++ [.list (pick lo hi st xs)])
def fAddL : F2 := fun a b led K => asList a led fun _ xs => asList b led fun _ ys => (small xs ∧ small ys) ∧ K (.obj led.length) (led ++ [.list (xs ++ ys)])
def fAdd : F2 := sel 2 (fI fun i j K => K (.int (i + j))) (sel 4 fAddY fAddL)
def lenOf (a : AV) (led : Led) (K : Nat → Prop) : Prop := AV.casesOn a (fun _ => False) (fun xs => small xs ∧ K xs.length) (fun xs => small xs ∧ K xs.length) (fun _ _ => False) (fun i => ogo led[i]? fun ao => aoL ao fun xs => small xs ∧ K xs.length) (fun _ => False)
def fLen : F1 := fun a led K => lenOf a led fun k => K (.at (.int k)) led
def asIs (xs : List AV) (K : List Int → Prop) : Prop := List.rec (motive := fun _ => (List Int → Prop) → Prop) (fun K => K []) (fun a _ ih K => asI a fun x => ih fun r => K (x :: r)) xs K
def toY (ns : List Int) : List UInt8 := ns.map fun n => n.toNat.toUInt8
def fBytes : F1 := fun a led K => asList a led fun _ xs => asIs xs fun ns => (small xs ∧ ∀ n ∈ ns, 0 ≤ n ∧ n < 256) ∧ K (.at (.bytes (toY ns))) led
def fList : F1 := fun a led K => asList a led fun _ xs => small xs ∧ K (.obj led.length) (led ++ [.list xs])
def tNil (x : XE) : XT := fun loc led K => x loc led fun v l => asList v l fun _ xs => K (!xs.isEmpty) l
def xByte (x : XE) : XE := fun loc led K => x loc led fun v l => asI v fun z => (0 ≤ z ∧ z < 256) ∧ K (.at (.bytes [z.toNat.toUInt8])) l

section
variable {c : Cf} {n : Nat} {cx : Ctx} {S : Sit c} {h : Heap} {rs : List Addr} {a : AV} {v : Value} {C : Prop} {K : Frag} {mg mb : Str → Option Value}
theorem index_ok : Ok2 c n (fun u v => call (.builtin "list.index") [u, v]) fIndex := fun S a x va vx ia ix A E Q K hR e P => list_el e ia fun _ d ys items m e e1 _ g p => ogo_el e.2 fun j e3 k1 => by
  subst e1
  obtain ⟨⟨⟨b, kb⟩, hl⟩, _⟩ := e
  have hz : ys.length = items.size := p.length
  obtain ⟨hj, h1, h2⟩ := List.findIdx?_eq_some_iff_getElem.mp e3
  have at_ : ∀ m (hm : m < items.size), hits S x items[m] = same (ys[m]'(hz ▸ hm)) x := fun m hm => by
    refine Paired.get p (List.getElem?_eq_getElem (hz ▸ hm : m < ys.length)) fun v hv iv => ?_
    rw [Array.getElem?_toList, Array.getElem?_eq_getElem hm] at hv
    rw [Option.some.inj hv]
    exact hits_is (List.all_eq_true.mp kb _ (List.getElem_mem _)) iv
  refine call_meets PySem.F.slot_list_index (isList g).typeIs PySem.F.entry_list_index (PySem.F.args_list_index_2 _ _) (list_indexAt d items m none #[] vx (hits S x) j (hz ▸ hj) (Int.lt_trans (Int.ofNat_lt.mpr (Nat.lt_of_lt_of_le hj hl)) (by decide)) ?_ fun m hm hlt => ?_) ⟨g, fun y hy => hits_at hR.ui p kb ix y hy, P (S.tok (S.tk + 1)) (.at (.int j)) _ (.tok _) k1 ⟨_, rfl⟩⟩
  · rw [at_ j (hz ▸ hj)]; exact h1
  · rw [at_ m hm]; exact Bool.eq_false_iff.mpr (h2 m hlt)
theorem newList_to {xs : List AV} {items : Array Value} {tk : Nat} {k : Nat} {K : KV} {Q : Value → Shared → Prop} (p : S.IsL xs items.toList) (P : ∀ S' r v, Le noX S S' → K r S'.led → S'.Is r v → Q v S'.s) (e : K (.obj S.led.length) (S.led ++ [.list xs])) {h' : Heap} (x : Ext S.h h') (y : h'.get? S.h.objs.size = some (PySem.W.listOf items k)) : Q (.ref S.h.objs.size) { c.s₀ with heap := h', toks := tk } :=
  have o : ObjIs c h' (S.rs ++ [S.h.objs.size]) (.list xs) S.h.objs.size := ⟨items, k, y, IsL.mono ⟨fun b o _ _ e _ _ => x b o e, fun _ _ e => get_app e⟩ p⟩
  P (S.grow x (size_none _) o tk) _ _ (.grow x (size_none _) o tk) e ⟨_, rfl, grow_at S.rep⟩
theorem add_list_ok : Ok2 c n (binaryOp .Add) fAddL := fun S a b va vb ia ib A E Q K hR e P => list_el e ia fun _ r xs items m e e1 _ ga pa => list_el e ib fun _ d ys items2 m2 e e2 _ gd pd => by
  subst e1 e2
  exact PySem.P.add_list ga gd (newList_to (items := items ++ items2) (k := 0) (by rw [Array.toList_append]; exact Paired.append pa pd) P e.2 ext_push (Heap.get?_push_size _ rfl)) (by rw [← Array.length_toList, ← pa.length, ← Array.length_toList, ← pd.length]; exact Nat.le_trans (Nat.add_le_add e.1.1 e.1.2) (by decide))
theorem add_ok : Ok2 c n (binaryOp .Add) fAdd := .sel (Qt2.ok q_add) (.sel (Qt2.ok q_addY) add_list_ok)
theorem seq_ints {vs : List Value} {ns : List Int} (i : IntsAre vs ns) : IsL c h rs (ns.map fun z => .at (.int z)) vs := by
  induction i with
  | nil => exact .nil
  | cons n t _ ih => exact .cons ⟨t, rfl⟩ ih
theorem seq_el {K : List AV → Prop} (h : asSeq a S.led K) (i : S.Is a v) (f : ∀ xs r items, K xs → v = .ref r → S.h.IsList r items → S.IsL xs items.toList → C) : C := by
  cases a with
  | obj j => exact list_el (a := .obj j) (K := fun _ => K) h i fun _ r xs items m k e _ g p => f xs r items k e (isList g) p
  | «ints» ns =>
    obtain ⟨r, vs, e, g, j⟩ := i
    exact f _ r vs.toArray h e (by obtain ⟨o, e, q⟩ := g; exact ⟨o, S.rep.keep _ _ e, q⟩) (seq_ints j)
  | _ => exact h.elim
theorem Paired.pick {F : AV → Value → Prop} {xs : List AV} {items : Array Value} (p : Paired F xs items.toList) (js : List Nat) : Paired F (js.filterMap (xs[·]?)) (js.filterMap (items[·]?)) := by
  induction js with
  | nil => exact .nil
  | cons j js ih =>
    rw [List.filterMap_cons, List.filterMap_cons]
    cases e : xs[j]? with
    | none =>
      rw [List.getElem?_eq_none_iff, p.length, Array.length_toList] at e
      rw [Array.getElem?_eq_none e]; exact ih
    | some x => exact Paired.get p e fun v hv i => by rw [Array.getElem?_toList] at hv; rw [hv]; exact .cons i ih
def PartOk (c : Cf) (e : Option Expr) (k : Option Int) : Prop := ∀ {A env E} {s : Shared} {Q : Value → Shared → Prop}, (∀ v tk, IsPart v k → Q v { s with toks := tk }) → wpAny c.m A (evalPart e env) Q E s
theorem part_none : PartOk c none none := fun {A env E s Q} h => wpAny_pure (h _ s.toks .none)
theorem part_int {z : Int} {k : Nat} {pos : Pos} : PartOk c (some (.Constant (.int z) k pos)) (some z) := fun h => wpAny_Constant_int (k := k) (pos := pos) (h _ _ (.int _ _))
theorem part_neg {z : Int} {k : Nat} {pos pos' : Pos} : PartOk c (some (.UnaryOp .USub (.Constant (.int z) k pos) pos')) (some (-z)) := fun h => wpAny_UnaryOp (wpAny_Constant_int (PySem.P.neg_int (h _ _ (.int _ _))))
theorem q_neg {z : Int} {k : Nat} {pos pos' : Pos} : OkQ c n cx (.UnaryOp .USub (.Constant (.int z) k pos) pos') (xConst (.at (.int (-z)))) := q_const fun env A E s Q q => wpAny_UnaryOp (wpAny_Constant_int (PySem.P.neg_int (q _ _ ⟨_, rfl⟩)))
theorem ok_slice {value : Expr} {lower upper step : Option Expr} {lo hi st : Option Int} {p pos : Pos} {x : XE} (hv : Ok c n cx value x) (hl : PartOk c lower lo) (hu : PartOk c upper hi) (hs : PartOk c step st) (h0 : st ≠ some 0)
    (ho : ∀ o i, ∃ ops, subscripted (.Slice lower upper step p) false o i = operate ops (getItem o i)) : Ok c n cx (.Subscript value (.Slice lower upper step p) pos) (x1 (fSlice lo hi st) x) := fun S loc env F A E Q K hR e P =>
  Subscript_ (hv S loc env F hR e fun S1 a va L k i => seq_el k i fun xs r items k1 e1 g pa => wpAny_Slice (hl fun vl t1 il => hu fun vu t2 iu => hs fun vs t3 is => by
    subst e1
    obtain ⟨ops, ho⟩ := ho (.ref r) (.ref S1.h.objs.size)
    have g2 : (S1.h.push { cls := .type "slice", data := .fields #[vl, vu, vs] }).IsList r items := g.push _
    have L2 := Le.ext (S := S1) ext_push (h' := S1.h.push { cls := .type "slice", data := .fields #[vl, vu, vs] }) t3
    have hz : xs.length = items.size := pa.length
    refine tail_any (Heap.IsList.typeIs (s := (S1.ext ext_push t3).s) g2) slot_list_getitem.lookup (wpAny_getItem_list_slice g2 (Heap.IsSliceOf.new ..) il iu is h0 (newList_to (S := S1.ext ext_push t3) (k := 0) (xs := Og.pick lo hi st xs) (IsL.mono L2.mv ?_) (fun S' r v L3 => P S' r v (L.trans (L2.trans L3))) k1.2 ext_push (Heap.get?_push_size _ rfl)) (hz ▸ small_le k1.1)) ho
    unfold slicePick Og.pick
    rw [hz]
    exact Paired.pick pa _))
theorem ok_sub {value slice : Expr} {pos : Pos} {xv xi : XE} (hv : Ok c n cx value xv) (hi : Ok c n cx slice xi) (hs : ∀ o i, ∃ ops, subscripted slice false o i = operate ops (getItem o i)) : Ok c n cx (.Subscript value slice pos) (x2 fItem xv xi) :=
  fun S loc env F A E Q K hR e P => Subscript_ (bin_any hv hi (Qt2.ok (q_tail hs)) F hR e P)
theorem len_ok : Ok1 c n (fun v => call (.builtin "len") [v]) fLen := fun S a va ia A E Q K hR e P => by
  have fin : ∀ {k : Nat}, (k ≤ 1000 ∧ K (.at (.int k)) S.led) → (k : Int) < 2 ^ 63 ∧ Q (.int k (S.tk + 1)) { S.s with toks := S.tk + 1 + 1 } := fun {k} z => ⟨Int.lt_of_le_of_lt (Int.ofNat_le.mpr z.1) (by decide), P (S.tok _) _ _ (.tok _) z.2 ⟨_, rfl⟩⟩
  have tup : ∀ {α : Type} {F : α → Value → Prop} {xs : List α}, IsQ F S.h xs va → (xs.length ≤ 1000 ∧ K (.at (.int xs.length)) S.led) → wpAny c.m A (call (.builtin "len") [va]) Q E S.s := fun {α F xs} i z => by
    obtain ⟨r, items, rfl, t, p⟩ := i
    rw [show xs.length = items.size from p.length] at z
    exact PyProof.Rows.len_tuple t (fin z).1 (fin z).2
  cases a with
  | tup xs => exact tup ia e
  | tab xs => exact tup ia e
  | obj j =>
    refine list_el (a := .obj j) (K := fun _ xs => small xs ∧ K (.at (.int xs.length)) S.led) e ia fun _ r xs items m k e1 _ g p => ?_
    subst e1
    rw [small, show xs.length = items.size from p.length] at k
    exact call_len_list (isList g) (fin k).1 (fin k).2
  | _ => exact e.elim
theorem int_ok : Ok1 c n (fun v => call (.type "int") [v]) (f1I id) := fun S a va ia A E Q K hR e P => asI_el e ia fun z t e e1 => by
  subst e1
  exact call_int_int (P S _ _ (.tok S.tk) e ⟨t, rfl⟩)
theorem asIs_el {xs : List AV} {vs : List Value} (i : S.IsL xs vs) : ∀ {K : List Int → Prop}, asIs xs K → (∀ ns, IntsAre vs ns → K ns → C) → C := by
  induction i with
  | nil => exact fun h f => f [] .nil h
  | cons a _ ih => exact fun h f => asI_el h a fun z t h e => ih h fun ns p k => f (z :: ns) (e ▸ .cons z t p) k
theorem bytes_ok : Ok1 c n (fun v => call (.type "bytes") [v]) fBytes := fun S a va ia A E Q K hR e P => list_el e ia fun _ r xs items m e e1 _ g p => asIs_el p e fun ns pi e => by
  subst e1
  refine call_bytes_ints (l := r) (by obtain ⟨l⟩ := items; exact isList g) pi e.1.2 (p.length ▸ small_le e.1.1) hR.handled fun h' t k x => ?_
  exact P (S.ext x k) _ _ (.ext x k) e.2 ⟨t, rfl⟩
theorem list_list_ok : Ok1 c n (fun v => call (.type "list") [v]) fList := fun S a va ia A E Q K hR e P => list_el e ia fun _ r xs items m e e1 _ g p => by
  subst e1
  exact call_list_seq r (.inl rfl) g rfl rfl (fun h' k x y => newList_to p P e.2 x y) (by rw [← Array.length_toList, ← p.length]; exact small_le e.1)
end
end Og
end

section
open PySem PySem.W PySem.Calls PyProof.Rows PySem.SeqAt
set_option Elab.async false
set_option linter.unusedVariables false
set_option genSizeOf false
set_option genInjectivity false
namespace Og

def fListD : F1 := fun a led K => asDict a led fun _ _ es => small es ∧ K (.obj led.length) (led ++ [.list (es.map fun e => .tup e.1)])
def fNeD : F2 := fun a b led K => asDict a led fun _ t es => asDict b led fun _ t' fs => (t = t' ∧ es.length = fs.length ∧ (∀ e ∈ es, look fs e.1 = some e) ∧ ∀ e ∈ es, e.1.all (ofKind t) = true) ∧ K (.at (.bool false)) led

section
variable {c : Cf} {n : Nat} {cx : Ctx} {S : Sit c} {h : Heap} {rs : List Addr} {a : AV} {v : Value} {C : Prop} {K : Frag} {mg mb : Str → Option Value}
section
variable {A : Around} {E : Value → Shared → Prop} {s : Shared} {d it : Addr} {o : Obj} {es : Array DictEntry} {ep i : Nat}
theorem iter_dict {Q : Value → Shared → Prop} (hd : (d == sysModules) = false) (ho : s.heap.get? d = some o) (hc : o.ExactDict) (hda : o.data = .dict es ep)
    (q : Q (.ref s.heap.objs.size) { s with heap := s.heap.push { cls := .type "dict_keyiterator", data := .fields #[.ref d, .int 0 0, .int es.size 0, .int ep 0] } }) : wpAny c.m A (pyIter (.ref d)) Q E s := by
  have hT : s.TypeIs (.ref d) "dict" := ⟨o, ho, hc.1⟩
  refine wpAny_pyIter_slot hT PySem.F.slot_dict_iter (wpAny_call_entry PySem.F.slot_dict_iter hT PySem.F.entry_dict_iter ?_ (PySem.F.args_dict_iter_1 _))
  unfold Builtin.«dict.__iter__» Builtin.Dict.dictSlotNone Builtin.Dict.showsAll
  refine wpAny_bind (wpAny_bind (wpAny_notOrdered_dict hT (wpAny_pure ?_)))
  show wpAny _ _ ((if (d == sysModules) = true then _ else _) >>= _) _ _ s
  rw [if_neg (by rw [hd]; exact Bool.false_ne_true)]
  refine wpAny_bind (wpAny_pure (wpAny_bind (wpAny_dictEntries ho hda (wpAny_bind (wpAny_dictEpoch ho hda (wpAny_bind (wpAny_newObj_type (wpAny_pure ⟨_, rfl, "dict_keyiterator", _, ⟨_, Heap.get?_push_size _ rfl, rfl⟩, PySem.F.slot_dict_keyiterator_next.lookup, q⟩))))))))
theorem next_head {Q : Option Value → Shared → Prop} (hit : s.heap.IsKeyIter it d i es.size ep) (ho : s.heap.get? d = some o) (hda : o.data = .dict es ep) :
    (∀ x, es[i]? = some x → (∀ h', h'.IsKeyIter it d (i + 1) es.size ep → Heap.SameBut it s.heap h' → Q (some x.key) { s with heap := h' }) → wpAny c.m A (pyNext (.ref it)) Q E s) ∧
    (es[i]? = none → A.handled = none → (∀ h', Heap.ExtBut it s.heap h' → Q none { s with heap := h' }) → wpAny c.m A (pyNext (.ref it)) Q E s) := by
  obtain ⟨oi, hoi, hci, hdi⟩ := id hit
  have hown : Builtin.Dict_items.ownsTuple "dict_keyiterator" = false := by decide
  have ne : ¬ ((i : Int) < 0) := Int.not_lt.mpr (Int.natCast_nonneg i)
  refine ⟨fun x hx q => ?_, fun hx hh q => ?_⟩ <;> unfold pyNext
  all_goals
    refine wpAny_bind (wpAny_attempt (wpAny_callSpecial?_slot (name := Str.ofString "__next__") hit.typeIs PySem.F.slot_dict_keyiterator_next (wpAny_call_entry PySem.F.slot_dict_keyiterator_next hit.typeIs PySem.F.entry_dict_keyiterator_next ?_ (PySem.F.args_dict_keyiterator_next_1 _))))
    refine wpAny_bind (wpAny_pure (wpAny_bind (wpAny_bind ?_)))
    first | refine wpAny_bind (wpAny_typeNameOfWhole_keyiter hit.typeIs (wpAny_pure ?_)) | refine wpAny_bind (wpAny_typeNameOf_keyiter hit.typeIs (wpAny_pure ?_))
    refine wpAny_bind (wpAny_fieldsOf hoi hdi ?_)
    rw [hown]
    show wpAny _ _ (if (Value.ref d == Value.none) = true then _ else _) _ _ s
    rw [if_neg (show ¬ ((Value.ref d == Value.none) = true) from Bool.false_ne_true)]
    refine wpAny_bind (wpAny_pure (wpAny_bind (wpAny_dictEntries ho hda ?_)))
    rw [if_neg (by rw [bne_self_eq_false]; exact Bool.false_ne_true)]
    refine wpAny_bind (wpAny_pure (wpAny_bind (wpAny_dictEpoch ho hda ?_)))
    rw [if_neg (by rw [bne_self_eq_false]; exact Bool.false_ne_true)]
    refine wpAny_pure ?_
  · show wpAny _ _ (match (if (i : Int) < 0 then none else es[(i : Int).toNat]?) with | some e => _ | none => _) _ _ s
    rw [if_neg ne, Int.toNat_natCast, hx]
    refine wpAny_bind ?_
    first | refine wpAny_bind (wpAny_typeNameOfWhole_keyiter hit.typeIs (wpAny_pure ?_)) | refine wpAny_bind (wpAny_typeNameOf_keyiter hit.typeIs (wpAny_pure ?_))
    refine wpAny_bind (wpAny_isOneOf_keyiter hit.typeIs ?_)
    show wpAny _ _ (setField (.ref it) 1 (rawInt ((i : Int) + 1)) >>= _) _ _ s
    have hit' : (s.heap.update it (Obj.mapFields (·.setIfInBounds 1 (rawInt ((i : Int) + 1))))).IsKeyIter it d (i + 1) es.size ep :=
      ⟨_, Heap.get?_update_self _ hoi (Obj.isFreed_of_fields (Obj.data_mapFields hdi _)), (Obj.cls_mapFields ..).trans hci, by rw [Obj.data_mapFields hdi]; rfl⟩
    refine wpAny_bind (wpAny_setField hoi hdi (show 1 < 4 by decide) (wpAny_bind (wpAny_holding ?_)))
    refine wpAny_bind (wpAny_isOneOf_keyiter (s := { s with heap := s.heap.update it (Obj.mapFields (·.setIfInBounds 1 (rawInt ((i : Int) + 1)))) }) hit'.typeIs ?_)
    show wpAny _ _ (pure x.key) _ _ _
    exact wpAny_pure (wpAny_pure ⟨_, rfl, wpAny_pure (q _ hit' (Heap.SameBut.update ..))⟩)
  · show wpAny _ _ (match (if (i : Int) < 0 then none else es[(i : Int).toNat]?) with | some e => _ | none => _) _ _ s
    rw [if_neg ne, Int.toNat_natCast, hx]
    refine wpAny_bind ?_
    first | refine wpAny_bind (wpAny_typeNameOfWhole_keyiter hit.typeIs (wpAny_pure ?_)) | refine wpAny_bind (wpAny_typeNameOf_keyiter hit.typeIs (wpAny_pure ?_))
    show wpAny _ _ (setField (.ref it) 0 .none >>= _) _ _ s
    refine wpAny_bind (wpAny_setField hoi hdi (show 0 < 4 by decide) ?_)
    show wpAny _ _ (newExc (.type "StopIteration") [] >>= _) _ _ _
    refine wpAny_bind ?_
    unfold newExc newTuple
    refine wpAny_bind (wpAny_newObj_type ?_ (by size_fits))
    refine wpAny_bind (m := firstArgMember _ _) (wpAny_of_eq (a := Value.none) (by first | rfl | (unfold firstArgMember; rfl)) ?_)
    refine wpAny_newObj_type ?_ (by size_fits)
    unfold raiseNew
    refine wpAny_bind (wpAny_handled ?_)
    rw [show A.in1.handled = none from hh]
    refine wpAny_bind (wpAny_pure (wpAny_throw ?_))
    refine wpAny_bind (wpAny_isInstance (T := "StopIteration") (b := true) ⟨_, Heap.get?_push_size _ rfl, rfl⟩ isSubtype_stop ?_)
    exact wpAny_pure (q _ (((Heap.SameBut.update ..).extBut.push _).push _))
theorem walks_keys (hh : A.handled = none) (ne : d ≠ it) (hda : o.data = .dict es ep) : Walks c.prog c.w A it [it, d] [it] es.size (fun i v => ∃ x, es[i]? = some x ∧ v = x.key) (fun i h => h.IsKeyIter it d i es.size ep ∧ h.get? d = some o) where
  sub := fun b hb => by rw [List.mem_singleton.mp hb]; exact List.mem_cons_self ..
  frame := fun _ _ _ st hk => ⟨st.1.at fun o e => hk it (List.mem_cons_self ..) o e, hk d (List.mem_cons_of_mem _ (List.mem_singleton.mpr rfl)) o st.2⟩
  item := fun i s Q E hi st hQ => (next_head (c := c) st.1 st.2 hda).1 es[i] (Array.getElem?_eq_getElem hi) fun h' hit' hs' => hQ _ h' s.toks ⟨_, Array.getElem?_eq_getElem hi, rfl⟩ ⟨hit', hs'.extBut d o ne st.2⟩ fun b o hb e => hs'.extBut b o (fun h => hb (List.mem_singleton.mpr h)) e
  done := fun s Q E st hQ => (next_head (c := c) st.1 st.2 hda).2 (Array.getElem?_eq_none (Nat.le_refl _)) hh fun h' he' => hQ h' s.toks fun b o hb e => he' b o (fun h => hb (List.mem_singleton.mpr h)) e
  self := fun _ _ _ _ st hQ => wpAny_pyIter_keyiter st.1 hQ
theorem src_keys (hd : (d == sysModules) = false) (hc : o.ExactDict) (hda : o.data = .dict es ep) : KdlSrc c.prog c.w "dict" d d es.size (fun i v => ∃ x, es[i]? = some x ∧ v = x.key) (fun h => h.get? d = some o) where
  type := fun _ hm => ⟨o, hm, hc.1⟩
  there := fun _ hm => ⟨Heap.lt_size hm, Heap.lt_size hm⟩
  keep := fun _ _ hm hk => hk d (.inl rfl) o hm
  notList := by decide
  notTuple := by decide
  hint := fun _ _ _ _ hm hq => kdl_hint_dict ⟨o, hm, hc.1⟩ hq
  iter := fun _ _ hh hm => ⟨_, _, (fun _ _ hq => iter_dict (c := c) hd hm hc hda hq), walks_keys hh (Nat.ne_of_lt (Heap.lt_size hm)) hda, ⟨⟨_, Heap.get?_push_size _ rfl, rfl, rfl⟩, Heap.get?_push_of_some _ hm⟩⟩
end
theorem isT_key {t : Bool} {k : List At} {a : Addr} (x : IsTupleKey (kd c t) h k a) : IsT h k (.ref a) := by
  obtain ⟨o, items, m, ho, hc, hd, p⟩ := x
  refine ⟨a, items, rfl, ⟨o, ho, hc, m, hd⟩, ?_⟩
  revert p
  generalize items.toList = l
  intro p
  induction p with
  | nil => exact .nil
  | cons i _ ih => exact .cons (isK_iff.mp i).2 ih
theorem keys_is {t : Bool} {es : List (List At × Int)} {kvs : List (List At × Addr × Value)} (p : Paired HEnt es kvs) : (∀ x ∈ kvs, IsTupleKey (kd c t) h x.1 x.2.1) → IsL c h rs (es.map fun e => .tup e.1) (kvs.map fun x => .ref x.2.1) := by
  induction p with
  | nil => exact fun _ => .nil
  | cons i _ ih => exact fun k => .cons (show IsT h _ _ from i.1 ▸ isT_key (k _ (List.mem_cons_self ..))) (ih fun x m => k x (List.mem_cons_of_mem _ m))
theorem list_dict_ok : Ok1 c n (fun v => call (.type "list") [v]) fListD := fun S a va ia A E Q K hR e P => dict_el e ia fun _ r t es kvs e e1 hi g p => by
  subst e1
  obtain ⟨o, xs, ep, ho, hc, hda, he, his, hn⟩ := g
  have hz := size_of_entries he
  refine kdl_call (src_keys (S.rep.sys hi) hc hda) hR.handled ho (hz.trans p.length.symm ▸ small_le e.1) fun h' tk acc k x y it => newList_to ?_ P e.2 x y
  rw [show acc.toList = kvs.map fun x => Value.ref x.2.1 from ?_]
  · exact keys_is p his
  · refine List.ext_getElem? fun j => ?_
    rw [List.getElem?_map]
    cases q : acc.toList[j]? with
    | none =>
      rw [List.getElem?_eq_none_iff, Array.length_toList, it.1, hz] at q
      rw [List.getElem?_eq_none q]; rfl
    | some v =>
      obtain ⟨x, e1, e2⟩ := it.2 j v (by rw [← Array.getElem?_toList]; exact q)
      rw [entry_at he] at e1
      obtain ⟨y, e3, e4⟩ := Option.map_eq_some_iff.mp e1
      rw [e3, e2, ← e4]; rfl
end
end Og
end

section
open PySem PySem.W PySem.Calls PyProof.Rows PySem.SeqAt
set_option Elab.async false
set_option linter.unusedVariables false
set_option genSizeOf false
set_option genInjectivity false
namespace Og

def xBytes (x : XL) : XE := fun loc led K => x loc led fun vs l => asIs vs fun ns => (small vs ∧ ∀ n ∈ ns, 0 ≤ n ∧ n < 256) ∧ K (.at (.bytes (toY ns))) l
def xEmpty (b : Bool) : XE := fun _ led K => K (.obj led.length) (led ++ [.dict b []])
def xDict (ks : List Nat) (x : XL) : XE := fun loc led K => x loc (led ++ [.sdict []]) fun vs l => l[led.length]? = some (.sdict []) ∧ K (.obj led.length) (l.set led.length (.sdict (ks.zip vs)))
section
variable {c : Cf} {n : Nat} {cx : Ctx} {S : Sit c} {h : Heap} {rs : List Addr} {a : AV} {v : Value} {C : Prop} {K : Frag} {mg mb : Str → Option Value}
theorem same_pairs {id : String} {A : Around} {s : Shared} {E : Value → Shared → Prop} {Q : Bool → Shared → Prop} {knd : HeapKind c.prog c.w (List At)} {a b : Addr} {ka kb : List (List At × Addr × Value)} (hu : knd.room A) (ha : (a == sysModules) = false) (hb : (b == sysModules) = false) (da : s.heap.DictOfH knd a ka) (db : s.heap.DictOfH knd b kb) (hl : ka.length = kb.length)
    (hit : ∀ x ∈ ka, ∃ y, atKey kb x.1 = some y ∧ EqAt A s x.2.2 y.2 true) (q : Q true s) : wpAny c.m A (Builtin.Dict.samePairs id a b) Q E s := by
  obtain ⟨oa, es, ep, hoa, _, hda, hea, hia, hna⟩ := da
  obtain ⟨ob, fs, ep', hob, _, hdb, heb, hib, hnb⟩ := db
  have hsz : es.size = fs.size := (size_of_entries hea).trans (hl.trans (size_of_entries heb).symm)
  unfold Builtin.Dict.samePairs Builtin.Dict.showsAll
  rw [if_neg (show ¬ (a == sysModules) = true by rw [ha]; exact Bool.false_ne_true), if_neg (show ¬ (b == sysModules) = true by rw [hb]; exact Bool.false_ne_true)]
  refine wpAny_bind (wpAny_pure (wpAny_bind (wpAny_pure (wpAny_bind (wpAny_dictEntries hoa hda ?_)))))
  refine wpAny_bind (wpAny_dictEntries hob hdb ?_)
  rw [if_neg (by rw [hsz, bne_self_eq_false]; exact Bool.false_ne_true)]
  refine wpAny_bind (wpAny_dictEpoch hoa hda (wpAny_bind ?_))
  rw [Std.Legacy.Range.forIn_eq_forIn_range']
  refine wpAny_forIn_list _ (fun rest r s' => s' = s ∧ r = (none, ()) ∧ ∀ i ∈ rest, i < es.size) _ ?_ ?_ _ _ ⟨rfl, rfl, fun i m => ?_⟩
  · rintro x rest r s' ⟨rfl, rfl, hr⟩
    have hlt : x < ka.length := (size_of_entries hea) ▸ hr x (List.mem_cons_self ..)
    obtain ⟨y, hy, he⟩ := hit ka[x] (List.getElem_mem _)
    refine wpAny_bind (wpAny_dictEntries hoa hda ?_)
    rw [entry_at hea, List.getElem?_eq_getElem hlt]
    refine wpAny_bind (wpAny_holding (wpAny_bind (wpAny_dictFind_heap (s := s') hu (hia _ (List.getElem_mem hlt)) hob hdb heb hib hnb (fun z => ?_) fun j p hj => ?_)))
    · rw [atKey_none_of_get z] at hy; cases hy
    · cases (atKey_of_get hnb hj).symm.trans hy
      refine wpAny_bind (wpAny_dictEntries hob hdb ?_)
      rw [entry_at heb, hj]
      refine wpAny_holding (he c.prog c.w _ _ ?_)
      show wpAny _ _ (if (!true) = true then _ else _) _ _ _
      rw [if_neg (by decide)]
      refine wpAny_bind (wpAny_dictEpoch hoa hda ?_)
      rw [if_neg (by rw [bne_self_eq_false]; exact Bool.false_ne_true)]
      exact wpAny_pure ⟨rfl, rfl, fun i m => hr i (List.mem_cons_of_mem _ m)⟩
  · rintro r s' ⟨rfl, rfl, _⟩
    exact wpAny_pure q
  · obtain ⟨k, hk, rfl⟩ := List.mem_range'.mp m
    have hk : k < (es.size - 0 + 1 - 1) / 1 := hk
    rw [Nat.div_one] at hk
    show 0 + 1 * k < es.size
    omega
theorem q_neD : Qt2 c n (compareOp .NotEq) fNeD := fun S a b va vb ia ib A E Q K hR e P => dict_el e ia fun _ r t es kvs e e1 hi g p => dict_el e ib fun _ d t' fs kvs2 e e2 hj g2 p2 => by
  subst e1 e2
  obtain ⟨⟨rfl, hl, hk, _⟩, e⟩ := e
  refine wpAny_richCompare_same_room (op := .NotEq) g.typeIs g2.typeIs PySem.F.slot_dict_ne (wpAny_call_entry PySem.F.slot_dict_ne g.typeIs PySem.F.entry_dict_ne ?_ (PySem.F.args_dict_ne_2 _ _)) (hR.u1 (k := 0) (by decide))
  show wpAny _ _ (Builtin.Dict.dictSlotArgs "__ne__" ⟨[.ref r, .ref d], []⟩ >>= _) _ _ S.s
  refine wpAny_bind ?_
  unfold Builtin.Dict.dictSlotArgs
  refine wpAny_bind (wpAny_notOrdered_dict g.typeIs ?_)
  show wpAny _ _ (pure (Value.ref r, Value.ref d)) _ _ S.s
  refine wpAny_pure (wpAny_bind (wpAny_isInstance (T := "dict") g2.typeIs PySem.F.sub_dict_dict ?_))
  show wpAny _ _ (if (!true) = true then _ else _) _ _ _
  rw [if_neg (by decide)]
  refine wpAny_bind (wpAny_pure (wpAny_bind (wpAny_pure (wpAny_bind (same_pairs (roomT hR) (S.rep.sys hi) (S.rep.sys hj) g g2 (p.length.symm.trans (hl.trans p2.length)) (fun x hx => ?_) (wpAny_pure ⟨_, rfl, (fun z => nomatch z), P _ _ S.tk e rfl⟩))))))
  obtain ⟨j, hx⟩ := List.mem_iff_getElem?.mp hx
  have lt : j < es.length := p.length ▸ (List.getElem?_eq_some_iff.mp hx).1
  refine Paired.get p (List.getElem?_eq_getElem lt) fun x' hx' ix => ?_
  cases hx.symm.trans hx'
  obtain ⟨y, hy, iy⟩ := atKey_look p2 (hk _ (List.getElem_mem lt))
  refine ⟨y, by rw [← ix.1]; exact hy, ?_⟩
  have := eqAt_A (s := S.s) (A := A.in1) (b := false) (x := .int es[j].2) (y := .int es[j].2) rfl rfl ix.2 iy
  rwa [decide_eq_true rfl] at this
theorem okT_nil {l : Expr} {pos lp : Pos} {x : XE} (hl : Ok c n cx l x) (hb : ∀ env, backTo lp (starEach [] env) = []) (hm : behindInMarks .NotEq (.List [] lp) = false) : OkT c n cx (.Compare l [.NotEq] [.List [] lp] pos) (tNil x) := fun S loc env F A E Q K hR e P =>
  wpAny_isTrue_Compare1 (hl S loc env F hR e fun S1 a va L k i => List_ (by
    rw [hb]
    refine spliced_nil (wpAny_newObj_type ?_ (Nat.zero_le _))
    refine list_el k i fun _ r xs items m k e1 _ g p => ?_
    subst e1
    have L2 := Le.ext (S := S1) ext_push (h' := S1.h.push (PySem.W.listOf #[] 0)) S1.tk
    have g1 := isList (ext_push (o := PySem.W.listOf #[] 0) _ _ g)
    have g2 : (S1.h.push (PySem.W.listOf #[] 0)).IsList S1.h.objs.size #[] := isList (Heap.get?_push_size _ rfl)
    have fin : Q (!xs.isEmpty) (S1.ext ext_push S1.tk).s := P (S1.ext ext_push S1.tk) _ _ (L.trans L2) k rfl
    cases xs with
    | nil =>
      have hz : items.size = (#[] : Array Value).size := p.length.symm
      refine RcNeAt.lists (s := (S1.ext ext_push S1.tk).s) (A := A) (e := fun _ => true) g1 g2 hz (hR.u1 (k := 0) (by decide)) (fun j _ h2 => absurd h2 (Nat.not_lt_zero j)) c.prog c.w E _ (wpAny_truthy_bool ?_)
      rw [hz]; exact fin
    | cons x xs =>
      refine RcNeAt.lists_lengths (s := (S1.ext ext_push S1.tk).s) (A := A) g1 g2 ?_ (hR.u1 (k := 0) (by decide)) c.prog c.w E _ (wpAny_truthy_bool fin)
      rw [show items.size = (x :: xs).length from p.length.symm]; rfl)) hm
theorem ok_bytes (B : Bs c K mg mb) {x : Str} {np pos lp : Pos} {es : List Expr} {xs : XL} (hx : cx.scope.names.lookup x = some .globalImplicit) (hm : NameIs mg mb x (.type "bytes")) (hd : (x == ("__debug__" : Str)) = false) (ha : OkL c n cx es xs)
    (hp : ∀ env pos, (backTo pos (starEach [.List es lp] env)) = [(false, eval (.List es lp) env)]) : Ok c n cx (.Call (.Name x np) [.List es lp] [] pos) (xBytes xs) := fun S loc env F A E Q K hR e P =>
  Call_ (name_at B F hx hm hd (callWith_of (P := fun h => Ext c.h₀ h) (by rw [hp]; rfl) keep_type (evalArgs_any (by rw [hp]; rfl) (by
    rw [hp]
    refine spliced_cons (List_ (ha lp S loc env F hR e fun S1 vs items L k i => asIs_el i k fun ns pi k => wpAny_newObj_type (spliced_nil ?_) ?_))
    · have k1 : Ext S1.h (S1.h.push (PySem.W.listOf items.toArray 0)) := ext_push
      refine ⟨(S1.rep.all k1).keep, call_bytes_ints (isList (Heap.get?_push_size _ rfl)) pi k.1.2 (i.length ▸ small_le k.1.1) hR.handled fun h' t tk x => ?_⟩
      have k2 : Ext S1.h h' := fun b o e => x b o (k1 b o e)
      exact P (S1.ext k2 tk) _ _ (L.trans (.ext k2 tk)) k.2 ⟨t, rfl⟩
    · show items.toArray.size ≤ sizeLine
      rw [List.size_toArray, ← i.length]
      exact small_le k.1.1))))
theorem ok_empty {b : Bool} {pos : Pos} : Ok c n cx (.Dict [] [] pos) (xEmpty b) := fun S loc env F A E Q K hR e P => wpAny_Dict_empty (by
  have o : ObjIs c (S.h.push { cls := .type "dict", data := .dict #[] }) (S.rs ++ [S.h.objs.size]) (.dict b []) S.h.objs.size := ⟨[], Heap.DictOfH.new _, .nil⟩
  exact P (S.grow ext_push (size_none _) o S.tk) _ _ (.grow ext_push (size_none _) o S.tk) e ⟨_, rfl, grow_at S.rep⟩)
end
end Og
end

section
open PySem PySem.W PySem.Calls PyProof.Rows PySem.SeqAt
set_option Elab.async false
set_option linter.unusedVariables false
set_option genSizeOf false
set_option genInjectivity false
namespace Og

def pd1 (a : At) (K : PyData → Prop) : Prop := At.casesOn a (K .none) (fun _ => False) (fun z => z.natAbs < 4611686018427387904 ∧ K (.int z)) (fun j => ogo words[j]? fun x => K (.str x)) (fun _ => False)
def pds (xs : List At) (K : List PyData → Prop) : Prop := List.rec (motive := fun _ => (List PyData → Prop) → Prop) (fun K => K []) (fun a _ ih K => pd1 a fun d => ih fun r => K (d :: r)) xs K
def pdV (a : AV) (K : PyData → Prop) : Prop := AV.casesOn a (fun a => pd1 a K) (fun xs => pds xs fun ds => K (.tuple ds)) (fun _ => False) (fun _ _ => False) (fun _ => False) (fun _ => False)
def pdVs (xs : List AV) (K : List PyData → Prop) : Prop := List.rec (motive := fun _ => (List PyData → Prop) → Prop) (fun K => K []) (fun a _ ih K => pdV a fun d => ih fun r => K (d :: r)) xs K
def shows (a : AV) (led : Led) (K : PyData → Prop) : Prop := (asList a led (fun _ xs => pdVs xs fun ds => (PyData.list ds).shown.length ≤ sizeLine ∧ K (.list ds))) ∨ (pdV a fun d => d.shown.length ≤ sizeLine ∧ (a = .at .none ∨ PyProof.Rows.isDisplay d = true) ∧ K d)
def tReprNe (x y : XE) : XT := fun loc led K => x loc led fun v l => shows v l fun d => y loc l fun u l => shows u l fun d' => d = d' ∧ K false l

section
variable {c : Cf} {n : Nat} {cx : Ctx} {S : Sit c} {h : Heap} {rs : List Addr} {a : AV} {v : Value} {C : Prop} {K : Frag} {mg mb : Str → Option Value} {loc : Loc} {env : Env}
/-- plain and not deep -/
structure Flt (k : Nat) (d : PyData) : Prop where
  sh : d.showable = true
  nd : d.hasDict = false
  dp : d.depth ≤ k
structure Flts (k : Nat) (ds : List PyData) : Prop where
  sh : PyData.showableAll ds = true
  nd : PyData.hasDictAll ds = false
  dp : PyData.depthAll ds ≤ k
theorem Flts.nil {k : Nat} : Flts k [] := ⟨by unfold PyData.showableAll; rfl, by unfold PyData.hasDictAll; rfl, by unfold PyData.depthAll; exact Nat.zero_le _⟩
theorem Flts.cons {k : Nat} {d : PyData} {ds : List PyData} (a : Flt k d) (b : Flts k ds) : Flts k (d :: ds) := ⟨by unfold PyData.showableAll; rw [a.sh, b.sh]; rfl, by unfold PyData.hasDictAll; rw [a.nd, b.nd]; rfl, by unfold PyData.depthAll; exact Nat.max_le.mpr ⟨a.dp, b.dp⟩⟩
theorem Flts.tup {k : Nat} {ds : List PyData} (b : Flts k ds) : Flt (k + 1) (.tuple ds) := ⟨by unfold PyData.showable; exact b.sh, by unfold PyData.hasDict; exact b.nd, by unfold PyData.depth; exact Nat.succ_le_succ b.dp⟩
theorem Flts.lst {k : Nat} {ds : List PyData} (b : Flts k ds) : Flt (k + 1) (.list ds) := ⟨by unfold PyData.showable; exact b.sh, by unfold PyData.hasDict; exact b.nd, by unfold PyData.depth; exact Nat.succ_le_succ b.dp⟩
theorem pd1_el {k : Nat} {a : At} {K : PyData → Prop} (e : pd1 a K) (i : IsA a v) (f : ∀ d, K d → Flt k d → Reads h v d [] → C) : C := by
  cases a with
  | none => cases i; exact f _ e ⟨by unfold PyData.showable; rfl, by unfold PyData.hasDict; rfl, by unfold PyData.depth; exact Nat.zero_le _⟩ .none
  | bool b => exact e.elim
  | int z =>
    obtain ⟨t, rfl⟩ := i
    have : z.natAbs.log2 < 1920 := (Classical.em (z.natAbs = 0)).elim (fun hz => by rw [hz]; decide) fun hz => Nat.lt_trans ((Nat.log2_lt hz).mpr (show z.natAbs < 2 ^ 62 from e.1)) (by decide)
    exact f _ e.2 ⟨by unfold PyData.showable; exact decide_eq_true this, by unfold PyData.hasDict; rfl, by unfold PyData.depth; exact Nat.zero_le _⟩ (.int ..)
  | str j =>
    obtain ⟨x, t, hx, rfl⟩ := i
    refine ogo_el e fun y hy e => ?_
    cases hx.symm.trans hy
    exact f _ e ⟨by unfold PyData.showable; rfl, by unfold PyData.hasDict; rfl, by unfold PyData.depth; exact Nat.zero_le _⟩ (.str ..)
  | bytes b => exact e.elim
theorem pds_el {k : Nat} {xs : List At} {vs : List Value} (p : Paired IsA xs vs) : ∀ {K : List PyData → Prop}, pds xs K → (∀ ds, K ds → Flts k ds → ReadsAll h vs ds [] → C) → C := by
  induction p with
  | nil => exact fun e f => f [] e .nil .nil
  | cons a _ ih => exact fun {K} e f => pd1_el (K := fun d => pds _ fun r => K (d :: r)) e a fun d e fd r => ih e fun ds k fs rs => f (d :: ds) k (.cons fd fs) (.cons r rs)
theorem pdV_el {k : Nat} {K : PyData → Prop} (e : pdV a K) (i : Og.Is c h rs a v) (f : ∀ d, K d → Flt (k + 1) d → Reads h v d [] → C) : C := by
  cases a with
  | «at» a => exact pd1_el e i f
  | tup xs =>
    obtain ⟨r, items, rfl, ⟨o, g, cl, m, d⟩, p⟩ := i
    exact pds_el p e fun ds k fs rs => f _ k fs.tup (.tuple g cl d rs)
  | _ => exact e.elim
theorem pdVs_el {k : Nat} {xs : List AV} {vs : List Value} (p : IsL c h rs xs vs) : ∀ {K : List PyData → Prop}, pdVs xs K → (∀ ds, K ds → Flts (k + 1) ds → ReadsAll h vs ds [] → C) → C := by
  induction p with
  | nil => exact fun e f => f [] e .nil .nil
  | cons a _ ih => exact fun {K} e f => pdV_el (K := fun d => pdVs _ fun r => K (d :: r)) e a fun d e fd r => ih e fun ds k fs rs => f (d :: ds) k (.cons fd fs) (.cons r rs)
theorem repr_any {K : PyData → Prop} (e : shows a S.led K) (i : S.Is a v) {A : Around} {E Q : Value → Shared → Prop} (hR : Room n A) (P : ∀ S' d t, Le noX S S' → S'.led = S.led → K d → Q (.str d.shown t) S'.s) : wpAny c.m A (call (.builtin "repr") [v]) Q E S.s := by
  have go : ∀ {d : PyData} {r : Addr} {as : List Addr}, Flt 2 d → Reads S.h (.ref r) d as → d.shown.length ≤ sizeLine → K d → wpAny c.m A (call (.builtin "repr") [.ref r]) Q E S.s := fun {d r as} fd rd hz k =>
    repr_of_reads' rd fd.sh (PyData.noDict_hsm fd.nd) hR.guards (Nat.lt_of_le_of_lt (Nat.add_le_add_left (Nat.succ_le_succ fd.dp) _) (hR.u1 (k := 3) (by decide))) (fun _ _ e => e) (fun h' u tk x => P (S.ext x tk) d u (.ext x tk) rfl k) hz
  rcases e with e | e
  · exact list_el e i fun _ r xs items m e e1 _ g p => pdVs_el p e fun ds k fs rs => e1 ▸ go fs.lst (.list g rfl rfl rs) k.1 k.2
  · refine pdV_el (k := 1) e i fun d k fd r => ?_
    rcases k.2.1 with z | z
    · subst z
      cases i
      cases r
      exact PySem.P.repr_of_none (P (S.tok _) .none S.tk (.tok _) rfl k.2.2)
    · obtain ⟨r', rfl⟩ := PyProof.Rows.isRef_of_reads r z
      exact go fd r k.1 k.2.2
theorem repr_node (B : Bs c K mg mb) {x : Str} {np pos : Pos} {e : Expr} {xe : XE} (hx : cx.scope.names.lookup x = some .globalImplicit) (hm : NameIs mg mb x (.builtin "repr")) (hd : (x == ("__debug__" : Str)) = false) (he : Ok c n cx e xe)
    (hp : ∀ env pos, (backTo pos (starEach [e] env)) = [(false, eval e env)]) {A : Around} {E Q : Value → Shared → Prop} {K : PyData → Led → Prop} (hR : Room n A) (F : FrameIs cx S loc env) (k : xe loc S.led fun v l => shows v l fun d => K d l)
    (P : ∀ S' d t, Le noX S S' → K d S'.led → Q (.str d.shown t) S'.s) : wpAny c.m A (eval (.Call (.Name x np) [e] [] pos) env) Q E S.s :=
  Call_ (name_at B F hx hm hd (callWith_of (P := fun h => Ext c.h₀ h) (by rw [hp]; rfl) keep_builtin (evalArgs_any (by rw [hp]; rfl) (by
    rw [hp]
    exact spliced_cons (he S loc env F hR k fun S1 a v L k i => spliced_nil ⟨S1.rep.keep, repr_any k i hR fun S2 d t L2 el k => P S2 d t (L.trans L2) (el ▸ k)⟩)))))
theorem okT_reprNe (B : Bs c K mg mb) {x : Str} {np pos np2 pos2 pos3 : Pos} {e e2 : Expr} {xe xe2 : XE} (hx : cx.scope.names.lookup x = some .globalImplicit) (hm : NameIs mg mb x (.builtin "repr")) (hd : (x == ("__debug__" : Str)) = false) (he : Ok c n cx e xe) (he2 : Ok c n cx e2 xe2)
    (hp : ∀ env pos, (backTo pos (starEach [e] env)) = [(false, eval e env)]) (hp2 : ∀ env pos, (backTo pos (starEach [e2] env)) = [(false, eval e2 env)]) (hb : behindInMarks .NotEq (.Call (.Name x np2) [e2] [] pos2) = false) :
    OkT c n cx (.Compare (.Call (.Name x np) [e] [] pos) [.NotEq] [.Call (.Name x np2) [e2] [] pos2] pos3) (tReprNe xe xe2) := fun S loc env F A E Q K hR k P =>
  wpAny_isTrue_Compare1 (repr_node B hx hm hd he hp hR F k fun S1 d t L k => repr_node B hx hm hd he2 hp2 hR (F.le L) k fun S2 d' t' L2 k => by
    obtain ⟨rfl, k⟩ := k
    exact PyProof.Rows.ne_str (wpAny_truthy_bool (P S2 _ _ (L.trans L2) k (by rw [bne_self_eq_false])))) hb

/-! dict displays that begin with texts -/
abbrev relP {c : Cf} (ks : List Nat) (S : Sit c) (r : List AV) (vs : List (Value × Value)) : Prop := ∃ kvs, Carries (strKind c.prog c.w) vs kvs ∧ r.length = ks.length ∧ Paired (SEnt c S.h S.rs) (ks.zip r) kvs
def OkP (c : Cf) (n : Nat) (cx : Ctx) (keys : List (Option Expr)) (values : List Expr) (ks : List Nat) (x : XL) : Prop := ∀ pos (S : Sit c) loc env, FrameIs cx S loc env → Run n noX (relP ks) S (evalPairs (pairTrees keys values env pos)) (x loc S.led)
theorem okP_nil : OkP c n cx [] [] [] xlNil := fun pos S loc env F A E Q K hR e P => evalPairs_nil (P S [] [] (.tok S.tk) e ⟨[], trivial, rfl, .nil⟩)
theorem okP_cons {x : Str} {kn : Nat} {kp : Pos} {i : Nat} {keys : List (Option Expr)} {e : Expr} {values : List Expr} {ks : List Nat} {xe : XE} {xl : XL} (hi : words[i]? = some x) (he : Ok c n cx e xe) (hl : OkP c n cx keys values ks xl) :
    OkP c n cx (some (.Constant (.str x) kn kp) :: keys) (e :: values) (i :: ks) (xlCons xe xl) := fun pos S loc env F A E Q K hR k P =>
  evalPairs_cons (wpAny_mkText (wpAny_bind (he (S.tok (S.tk + 1)) loc env (F.le (.tok _)) hR k fun S1 a v L k i1 => wpAny_bind (wpAny_standAt (wpAny_pure (hl pos S1 loc env ((F.le (.tok _)).le L) hR k fun S2 r vs L2 k ⟨kvs, c1, l1, p1⟩ =>
    P S2 _ _ ((Le.tok _).trans (L.trans L2)) k ⟨(x, v) :: kvs, ⟨strKind_is .., rfl, c1⟩, congrArg Nat.succ l1, .cons (show SEnt c S2.h S2.rs (i, a) (x, v) from ⟨hi, i1.mono L2.mv⟩) p1⟩))))))
theorem merged_new {kvs : List (Str × Value)} : ∀ {acc : List (Str × Value)}, ((acc ++ kvs).map (·.1)).Nodup → merged acc kvs = acc ++ kvs := by
  induction kvs with
  | nil => exact fun _ => (List.append_nil _).symm
  | cons x r ih =>
    intro acc hn
    have e : stored acc x.1 x.2 = acc ++ [x] := if_neg fun z => by
      obtain ⟨y, m, d⟩ := List.any_eq_true.mp z
      rw [List.map_append, List.nodup_append] at hn
      exact hn.2.2 y.1 (List.mem_map_of_mem m) x.1 (List.mem_map_of_mem (List.mem_cons_self ..)) (of_decide_eq_true d)
    show merged (stored acc x.1 x.2) r = _
    rw [e, ih (by rwa [List.append_assoc]), List.append_assoc]; rfl
theorem Paired.mem {α β : Type} {F : α → β → Prop} {xs : List α} {ys : List β} (p : Paired F xs ys) {y : β} : y ∈ ys → ∃ x ∈ xs, F x y := by
  induction p with
  | nil => exact fun m => nomatch m
  | cons a _ ih => exact fun m => (List.mem_cons.mp m).elim (fun z => ⟨_, List.mem_cons_self .., z ▸ a⟩) fun m => (ih m).imp fun x z => ⟨List.mem_cons_of_mem _ z.1, z.2⟩
theorem names_nodup {es : List (Nat × AV)} {kvs : List (Str × Value)} (p : Paired (SEnt c h rs) es kvs) : (es.map (·.1)).Nodup → (kvs.map (·.1)).Nodup := by
  induction p with
  | nil => exact fun _ => .nil
  | cons a p ih =>
    intro hn
    rw [List.map_cons, List.nodup_cons] at hn ⊢
    refine ⟨fun m => hn.1 ?_, ih hn.2⟩
    obtain ⟨y, m, e⟩ := List.mem_map.mp m
    obtain ⟨x, m, i⟩ := Paired.mem p m
    exact words_inj i.1 (e ▸ a.1) ▸ List.mem_map_of_mem m
theorem ok_dict {keys : List (Option Expr)} {values : List Expr} {ks : List Nat} {xl : XL} {pos : Pos} (hl : OkP c n cx keys values ks xl) (h1 : keys.all (·.isSome) = true) (h2 : keys.length = values.length) (h3 : keys ≠ []) (h4 : keys.length ≤ 15) (hn : ks.Nodup) :
    Ok c n cx (.Dict keys values pos) (xDict ks xl) := fun S loc env F A E Q K hR k P => by
  have o : ObjIs c (S.h.push { cls := .type "dict", data := .dict #[] }) (S.rs ++ [S.h.objs.size]) (.sdict []) S.h.objs.size := ⟨[], ⟨_, #[], 0, Heap.get?_push_size _ rfl, ⟨rfl, rfl, rfl⟩, rfl, fun _ z => absurd z (by simp), .nil, List.nodup_nil⟩, .nil⟩
  have L0 := Le.grow (S := S) ext_push (size_none _) o S.tk
  refine wpAny_Dict_walk (knd := strKind c.prog c.w) h1 h2 h3 h4 (hl pos (S.grow ext_push (size_none _) o S.tk) loc env (F.le L0) hR k fun S1 r vs L k ⟨kvs, c1, l1, p1⟩ => ?_)
  have hi := L.mv.2 _ _ (grow_at S.rep (a := S.h.objs.size))
  obtain ⟨kv0, g0, p0⟩ := S1.rep.obj _ _ _ hi k.1
  cases p0
  refine ⟨kvs, c1, g0, fun h' g hs => ?_⟩
  have g := (show merged [] kvs = kvs from merged_new (acc := []) (names_nodup p1 (by rwa [List.map_fst_zip (Nat.le_of_eq l1.symm)]))) ▸ g
  have o2 : ObjIs c h' S1.rs (.sdict (ks.zip r)) S.h.objs.size := ⟨_, g, sent_mono (S1.rep.mvS hi (kpA hs)) p1⟩
  exact P (S1.set hi (kpA hs) o2 _) _ _ (L0.trans (L.trans (.set hi (kpA hs) o2 _))) k.2 ⟨_, rfl, hi⟩
end
end Og
end

section
open PySem PySem.W PySem.Calls PyProof.Rows PySem.SeqAt
set_option Elab.async false
set_option linter.unusedVariables false
set_option genSizeOf false
set_option genInjectivity false
namespace Og

/-- a stream: the i-th thing, read off the ledger of then -/
abbrev Src := Nat → Led → (Option AV → Prop) → Prop
abbrev XSrc := Loc → Led → (Src → Led → Prop) → Prop
abbrev Bd := AV → Loc → (Loc → Prop) → Prop
def srcL (j : Nat) : Src := fun i led K => asList (.obj j) led fun _ xs => K xs[i]?
def srcE (j : Nat) : Src := fun i led K => asList (.obj j) led fun _ xs => i ≤ xs.length ∧ Option.casesOn xs[i]? (K none) fun v => asT v fun ys => K (some (.two i ys))
def srcT (xss : List (List At)) : Src := fun i led K => K ((xss[i]?).map .tup)
def srcY (b : List UInt8) : Src := fun i led K => K ((b[i]?).map fun x => .at (.int x.toNat))
def srcR (n : Nat) : Src := fun i led K => two (decide (i < n)) (K (some (.at (.int i)))) (K none)
def xsL (x : XE) : XSrc := fun loc led K => x loc led fun v l => asList v l fun j _ => K (srcL j) l
def xsT (x : XE) : XSrc := fun loc led K => x loc led fun v l => asTab v fun xss => K (srcT xss) l
def xsY (x : XE) : XSrc := fun loc led K => x loc led fun v l => asY v fun b => K (srcY b) l
def xsR (x : XE) : XSrc := fun loc led K => x loc led fun v l => asI v fun z => (0 ≤ z ∧ z < 1000) ∧ K (srcR z.toNat) l
def xsE (x : XE) : XSrc := fun loc led K => x loc led fun v l => asList v l fun j _ => K (srcE j) l
def bd1 (i : Nat) : Bd := fun v loc K => K (loc.set i (some v))
def bd2 (i j : Nat) : Bd := fun v loc K => AV.casesOn v (fun _ => False) (fun _ => False) (fun _ => False) (fun z xs => K ((loc.set i (some (.at (.int z)))).set j (some (.tup xs)))) (fun _ => False) (fun _ => False)
def sFor (x : XSrc) (bd : Bd) (body : XS) : XS := fun loc led R K => x loc led fun src l => ∃ (N : Nat) (I : Nat → Loc → Led → Prop), I 0 loc l ∧ ∀ i loc l, I i loc l → src i l fun o => Option.casesOn o (K loc l) fun v => i < N ∧ bd v loc fun loc => body loc l R fun loc l => I (i + 1) loc l

/-- an iterator's step: its own objects alone are touched -/
structure LeO {c : Cf} (own : List Addr) (S S' : Sit c) : Prop where
  rs : S'.rs = S.rs
  led : S'.led = S.led
  kp : ∀ b o, b ∉ own → S.h.get? b = some o → S'.h.get? b = some o
  mv : MonoV S.h S'.h S.rs S'.rs
structure Turns (c : Cf) (n : Nat) (top : Bool) (target : Expr) (it : Value) (own : List Addr) (src : Src) (St : Nat → Sit c → Prop) : Prop where
  frame : ∀ i S S', St i S → (∀ b ∈ own, ∀ o, S.h.get? b = some o → S'.h.get? b = some o) → (top = false → MonoV S.h S'.h S.rs S'.rs) → St i S'
  live : ∀ i S, St i S → ∀ b ∈ own, ∃ o, S.h.get? b = some o ∧ o.cls ≠ .type "tuple"
  self : ∀ i (S : Sit c) A E (Q : Value → Shared → Prop), St i S → Q it S.s → wpAny c.m A (pyIter it) Q E S.s
  next : ∀ i (S : Sit c), St i S → (∀ b ∈ own, b ∉ S.rs ∧ c.h₀.get? b = none) → ∀ {A E} {Q1 : Shared → Prop} {Q2 : Value → Shared → Prop} {K : Option AV → Prop}, Room n A → src i S.led K → (∀ S', LeO own S S' → K none → Q1 S'.s) →
    (∀ S' av v, LeO own S S' → K (some av) → S'.Is av v → St (i + 1) S' → Q2 v S'.s) →
    wpAny c.m A (pyNext it) (fun r s => match r with | none => Q1 s | some v => wpAny c.m A (letOwnedTupleGo target it v) (fun _ s => Q2 v s) E s) E S.s
def OkSrc (c : Cf) (n : Nat) (cx : Ctx) (top : Bool) (target iter : Expr) (x : XSrc) : Prop := ∀ (S : Sit c) loc env, FrameIs cx S loc env → ∀ {A E Q K}, Room n A → x loc S.led K →
  (∀ S1 src it own St, Le noX S S1 → Turns c n top target it own src St → St 0 S1 → (∀ b ∈ own, S.h.get? b = none ∧ b ∉ S1.rs) → K src S1.led → Q it S1.s) → wpAny c.m A (eval iter env) (fun x s => wpAny c.m A (pyIter x) Q E s) E S.s
def OkBd (c : Cf) (n : Nat) (cx : Ctx) (target : Expr) (bd : Bd) : Prop := ∀ (S : Sit c) loc env, FrameIs cx S loc env → ∀ {A E v av K} {Q : Unit → Shared → Prop}, Room n A → S.Is av v → bd av loc K → (∀ S' loc', Le (FrX env) S S' → S'.led = S.led → FrameIs cx S' loc' env → K loc' → Q () S'.s) → wpAny c.m A (assign target env v) Q E S.s

section
variable {c : Cf} {n : Nat} {cx : Ctx} {top : Bool} {S S1 S2 : Sit c} {loc : Loc} {env : Env} {own : List Addr} {target : Expr}
theorem ok_bd1 {x : Str} {pos : Pos} (i : Nat) (hi : cx.slots[i]? = some x) (hn : cx.slots.Nodup) (hk : KindOk cx x) : OkBd c n cx (.Name x pos) (bd1 i) := fun S loc env F A E v av K Q hR iv k P =>
  wpAny_assign_Name (store_slot F hi hn hk iv fun S1 a xa _ L el F1 => P S1 _ (le_at xa L) el F1 k)
theorem ok_bd2 {x y : Str} {px py : Pos} {k : Nat} {pos : Pos} (i j : Nat) (hi : cx.slots[i]? = some x) (hj : cx.slots[j]? = some y) (hn : cx.slots.Nodup) (hx : KindOk cx x) (hy : KindOk cx y) (ht : ∀ env, (assignEach [.Name x px, .Name y py] env).map (·.2) = [assign (.Name x px) env, assign (.Name y py) env])
    (hst : ∀ env, (assignEach [.Name x px, .Name y py] env).findIdx? (·.1) = none) : OkBd c n cx (.Tuple [.Name x px, .Name y py] k pos) (bd2 i j) := fun S loc env F A E v av K Q hR iv e P => by
  cases av with
  | two z xs =>
    obtain ⟨a, t, u, rfl, ha, hu⟩ := iv
    exact assign_tup (is := [i, j]) hn (by rw [ht]; exact .cons (stores_name hi hx) (.cons (stores_name hj hy) .nil)) (hst env) hR F (avs := [.at (.int z), .tup xs]) ⟨a, _, rfl, ha, .cons ⟨t, rfl⟩ (.cons hu .nil)⟩ rfl fun S' L el F' => P S' _ L el F' e
  | _ => exact e.elim
theorem LeB.mine {X : Addr → Prop} (g : LeB X S S1) (h : ∀ b ∈ own, S.h.get? b = none) (l : LeO own S1 S2) : LeB X S S2 :=
  ⟨fun a m n => g.1 a (l.rs ▸ m) n, fun b o e n x => l.kp b o (fun m => by rw [h b m] at e; cases e) (g.2.1 b o e n x), fun b e => (Classical.em (b ∈ own)).elim (h b) fun m => g.2.2 b (by
    cases q : S1.h.get? b with
    | none => rfl
    | some o => rw [l.kp b o m q] at e; cases e)⟩
theorem Gd.mine (g : Gd top env S S1) (h : ∀ b ∈ own, S.h.get? b = none) (l : LeO own S1 S2) : Gd top env S S2 := ⟨g.1.mine h l, fun t => (g.2 t).trans l.mv⟩
theorem Le.mine {X : Addr → Prop} (g : Le X S S1) (h : ∀ b ∈ own, S.h.get? b = none) (l : LeO own S1 S2) : Le X S S2 :=
  have z := LeB.mine ⟨g.fresh, g.kp, g.dom⟩ h l
  ⟨z.1, z.2.1, z.2.2, g.mv.trans l.mv⟩
/-- the iterator's own objects stand apart -/
def Apart (own : List Addr) (env : Env) (S : Sit c) : Prop := ∀ b ∈ own, b ∉ S.rs ∧ ¬ FrX env b
theorem FrameIs.leO (F : FrameIs cx S loc env) (a : Apart own env S) (l : LeO own S S1) : FrameIs cx S1 loc env :=
  F.leX (X := (· ∈ own)) (fun b m n => absurd (l.rs ▸ m) n) (fun b o e _ m => l.kp b o m e) l.mv fun b x m => (a b m).2 x
theorem okS_for {iter : Expr} {body : List Stmt} {pos : Pos} {x : XSrc} {bd : Bd} {xb : XS} (hx : OkSrc c n cx top target iter x) (hb : OkBd c n cx target bd) (hy : OkB c n cx top body xb)
    (hs : ∀ env x, foldedSetIterable iter env x = pure x) : OkS c n cx top (.For target iter body [] pos) (sFor x bd xb) := fun S loc env F A E Q R K hR e P' P => by
  refine wpAny_For (hx S loc env F hR e fun S1 src it own St L0 T st0 ap e => ?_) (hs env)
  obtain ⟨N, I, i0, step⟩ := e
  refine codeAny_forLoop_any (fun k s => ∃ i S' loc', s = S'.s ∧ k = N - i ∧ I i loc' S'.led ∧ FrameIs cx S' loc' env ∧ St i S' ∧ Apart own env S' ∧ Gd top env S S') ?_ N
    ⟨0, S1, loc, rfl, rfl, i0, F.le L0, st0, fun b m => ⟨(ap b m).2, fun z => F.held b z (ap b m).1⟩, L0.gd0⟩
  rintro k s ⟨i, S2, loc2, rfl, rfl, hi, F2, st, ap2, G⟩
  refine T.next i S2 st (fun b m => ⟨(ap2 b m).1, S.rep.new' (ap b m).1⟩) hR (step i loc2 S2.led hi) (fun S3 L k => wpAny_execs_nil (P S3 loc2 (G.mine (fun b m => (ap b m).1) L) (F2.leO ap2 L) (L.led ▸ k))) fun S3 av v L k iv st => ?_
  have G3 := G.mine (fun b m => (ap b m).1) L
  have ap3 : Apart own env S3 := fun b m => ⟨L.rs ▸ (ap2 b m).1, (ap2 b m).2⟩
  refine hb S3 loc2 env (F2.leO ap2 L) hR iv k.2 fun S4 loc4 L4 el4 F4 k4 => hy S4 loc4 env F4 hR (by rw [el4, L.led]; exact k4) (fun S5 r v L5 k5 i5 => P' S5 r v (G3.trans (L4.gd.trans L5)) k5 i5) fun S5 loc5 L5 F5 k5 => ?_
  have G5 := Gd.trans (L4.gd (top := top)) L5
  exact ⟨N - (i + 1), Nat.sub_lt_sub_left k.1 (Nat.lt_succ_self i), i + 1, S5, loc5, rfl, rfl, k5, F5, T.frame _ _ _ st (fun b m o e => G5.1.2.1 b o e (ap3 b m).1 (ap3 b m).2) G5.2,
    fun b m => ⟨fun z => (T.live _ _ st b m).elim fun o q => (by rw [G5.1.1 b z (ap3 b m).1] at q; cases q.1), (ap3 b m).2⟩, G3.trans G5⟩

/-! the sources -/
section
variable {I : Addr} {h' : Heap} {tk : Nat}
theorem mine_t (t : ∀ b ∈ own, ∃ o, S.h.get? b = some o ∧ o.cls ≠ .type "tuple") : NoTup S.h (· ∈ own) := fun a o xs m e cl _ hm => (t a hm).elim fun o' q => by rw [e] at q; cases q.1; exact q.2 cl
abbrev Sit.mine (S : Sit c) (hx : ∀ b ∈ own, b ∉ S.rs ∧ c.h₀.get? b = none) (t : ∀ b ∈ own, ∃ o, S.h.get? b = some o ∧ o.cls ≠ .type "tuple") (k : ∀ b o, b ∉ own → S.h.get? b = some o → h'.get? b = some o) (tk : Nat) : Sit c :=
  ⟨S.rs, S.led, h', tk, S.rep.but (X := (· ∈ own)) (fun b o e m => k b o m e) hx (mine_t t)⟩
theorem LeO.of (hx : ∀ b ∈ own, b ∉ S.rs ∧ c.h₀.get? b = none) (t : ∀ b ∈ own, ∃ o, S.h.get? b = some o ∧ o.cls ≠ .type "tuple") (k : ∀ b o, b ∉ own → S.h.get? b = some o → h'.get? b = some o) (tk : Nat) : LeO own S (S.mine hx t k tk) :=
  ⟨rfl, rfl, k, fun a o xs m e cl d => k a o (mine_t t a o xs m e cl d) e, fun _ _ e => e⟩
theorem one_k (k : Heap.ExtBut I S.h h') : ∀ b o, b ∉ [I] → S.h.get? b = some o → h'.get? b = some o := fun b o m e => k b o (fun z => m (List.mem_singleton.mpr z)) e
theorem one_n {b : Addr} (m : b ∈ [I]) : b = I := List.mem_singleton.mp m
theorem go_name {nm : Str} {np : Pos} {it v : Value} {A : Around} {E : Value → Shared → Prop} {s : Shared} {Q : Unit → Shared → Prop} (q : Q () s) : wpAny c.m A (letOwnedTupleGo (.Name nm np) it v) Q E s := wpAny_of_eq rfl q
/-- one turn of an iterator that is one object -/
def Turn1 (n : Nat) (I : Addr) (src : Src) (St : Nat → Sit c → Prop) : Prop := ∀ i (S : Sit c), St i S → ∀ {K : Option AV → Prop}, src i S.led K →
  (K none ∧ ∀ {A E Q}, Room n A → (∀ h', Heap.ExtBut I S.h h' → Q none { S.s with heap := h' }) → wpAny c.m A (pyNext (.ref I)) Q E S.s) ∨
  ∃ av v, K (some av) ∧ S.Is av v ∧ ∀ {A E Q}, Room n A → (∀ h' tk, Heap.SameBut I S.h h' → (∀ S' : Sit c, S'.h = h' → S'.rs = S.rs → MonoV S.h S'.h S.rs S'.rs → St (i + 1) S') → Q (some v) { S.s with heap := h', toks := tk }) → wpAny c.m A (pyNext (.ref I)) Q E S.s
theorem okSrc_one {nm : Str} {np : Pos} {iter : Expr} {x : XSrc} (H : ∀ (S : Sit c) loc env, FrameIs cx S loc env → ∀ {A E Q} {K : Src → Led → Prop}, Room n A → x loc S.led K → (∀ S1 src oI (St : Nat → Sit c → Prop), Le noX S S1 → K src S1.led →
      (∀ i S2 S3, St i S2 → (∀ o, S2.h.get? S1.h.objs.size = some o → S3.h.get? S1.h.objs.size = some o) → (top = false → MonoV S2.h S3.h S2.rs S3.rs) → St i S3) → (∀ i S2, St i S2 → ∃ o, S2.h.get? S1.h.objs.size = some o ∧ o.cls ≠ .type "tuple") →
      (∀ i (S2 : Sit c) A E (Q : Value → Shared → Prop), St i S2 → Q (.ref S1.h.objs.size) S2.s → wpAny c.m A (pyIter (.ref S1.h.objs.size)) Q E S2.s) → (∀ S2 : Sit c, S2.h = S1.h.push oI → S2.rs = S1.rs → MonoV S1.h S2.h S1.rs S2.rs → St 0 S2) → Turn1 n S1.h.objs.size src St → Q (.ref S1.h.objs.size) (S1.ext (ext_push (o := oI)) S1.tk).s) → wpAny c.m A (eval iter env) (fun x s => wpAny c.m A (pyIter x) Q E s) E S.s) :
    OkSrc c n cx top (.Name nm np) iter x := fun S loc env F A E Q K hR e P => H S loc env F hR e fun S1 src oI St L k fr lv sf st T =>
  have lv : ∀ i S2, St i S2 → ∀ b ∈ [S1.h.objs.size], ∃ o, S2.h.get? b = some o ∧ o.cls ≠ .type "tuple" := fun i S2 z b m => one_n m ▸ lv i S2 z
  P (S1.ext ext_push S1.tk) src _ [S1.h.objs.size] St (L.trans (.ext ext_push S1.tk)) ⟨fun i S2 S3 z k m => fr i S2 S3 z (k _ (List.mem_singleton.mpr rfl)) m, lv, sf, fun i S2 z hx A E Q1 Q2 K hR e P1 P2 => (T i S2 z e).elim
      (fun e => e.2 hR fun h' k => P1 (S2.mine hx (lv i S2 z) (one_k k) S2.tk) (.of hx (lv i S2 z) (one_k k) S2.tk) e.1)
      fun ⟨av, v, e, iv, w⟩ => w hR fun h' tk k st2 => go_name (P2 (S2.mine hx (lv i S2 z) (one_k k.extBut) tk) av v (.of hx (lv i S2 z) (one_k k.extBut) tk) e (iv.mono (LeO.of hx (lv i S2 z) (one_k k.extBut) tk).mv) (st2 _ rfl rfl (LeO.of hx (lv i S2 z) (one_k k.extBut) tk).mv))⟩
    (st _ rfl rfl ext_push.mv) (fun b m => by rw [one_n m]; exact ⟨L.dom _ (size_none _), fun z => (S1.rep.mem z).elim fun o q => by rw [size_none] at q; cases q.1⟩) k
theorem okSrc_L {nm : Str} {np : Pos} {iter : Expr} {x : XE} (he : Ok c n cx iter x) : OkSrc c n cx false (.Name nm np) iter (xsL x) := okSrc_one fun S loc env F A E Q K hR e P => he S loc env F hR e fun S1 a v L k i => list_el k i fun j r xs items m k e1 hj g p => by
  subst e1
  refine wpAny_pyIter_list (isList g) (P S1 (srcL j) _ (fun i S => S.h.IsListIter S1.h.objs.size r i ∧ S.rs[j]? = some r) L k (fun i S2 S3 z k m => ⟨z.1.imp fun o q => ⟨k o q.1, q.2⟩, (m rfl).2 _ _ z.2⟩) (fun i S2 z => z.1.imp fun o q => ⟨q.1, fun w => absurd (q.2.1.symm.trans w) (by decide)⟩)
    (fun i S2 A E Q z q => wpAny_pyIter_listiter z.1 q) (fun S2 e1 e2 _ => ⟨⟨_, e1 ▸ Heap.get?_push_size _ rfl, rfl, rfl⟩, e2 ▸ hj⟩) fun i S2 z K e => ?_)
  refine list_el (S := S2) (a := .obj j) (v := .ref r) e ⟨r, rfl, z.2⟩ fun _ r' xs items m k e1 _ g p => ?_
  cases e1
  cases hx : xs[i]? with
  | none =>
    rw [hx] at k
    rw [List.getElem?_eq_none_iff, p.length, Array.length_toList] at hx
    exact .inl ⟨k, fun hR q => wpAny_pyNext_list_end hR.handled z.1 (isList g) (Array.getElem?_eq_none hx) q⟩
  | some av =>
    rw [hx] at k
    refine Paired.get p hx fun v hv iv => ?_
    rw [Array.getElem?_toList] at hv
    exact .inr ⟨av, v, k, iv, fun hR q => wpAny_pyNext_list_item z.1 (isList g) hv fun h' it sb => q h' S2.tk sb fun S' e1 e2 _ => ⟨e1 ▸ it, e2 ▸ z.2⟩⟩
theorem okSrc_T {nm : Str} {np : Pos} {iter : Expr} {x : XE} (he : Ok c n cx iter x) : OkSrc c n cx false (.Name nm np) iter (xsT x) := okSrc_one fun S loc env F A E Q K hR e P => he S loc env F hR e fun S1 a v L k i => asTab_el k fun xss e1 k => by
  subst e1
  obtain ⟨r, items, rfl, t, p⟩ := i
  refine wpAny_pyIter_tuple t (P S1 (srcT xss) _ (fun i S => S.h.IsTupleIter S1.h.objs.size r i ∧ S.h.IsTuple r items ∧ Paired (IsT S.h) xss items.toList) L k (fun i S2 S3 z k m => ⟨z.1.imp fun o q => ⟨k o q.1, q.2⟩, (m rfl).tup z.2.1, z.2.2.mono fun _ _ => IsT.mono (m rfl)⟩) (fun i S2 z => z.1.imp fun o q => ⟨q.1, fun w => absurd (q.2.1.symm.trans w) (by decide)⟩)
    (fun i S2 A E Q z q => wpAny_pyIter_tupleiter z.1 q) (fun S2 e1 e2 M => ⟨⟨_, e1 ▸ Heap.get?_push_size _ rfl, rfl, rfl⟩, M.tup t, p.mono fun _ _ => IsT.mono M⟩) fun i S2 z K e => ?_)
  unfold srcT at e
  cases hx : xss[i]? with
  | none =>
    rw [hx] at e
    rw [List.getElem?_eq_none_iff, z.2.2.length, Array.length_toList] at hx
    exact .inl ⟨e, fun hR q => wpAny_pyNext_tuple_end hR.handled z.1 z.2.1 (Array.getElem?_eq_none hx) q⟩
  | some av =>
    rw [hx] at e
    refine Paired.get z.2.2 hx fun v hv iv => ?_
    rw [Array.getElem?_toList] at hv
    exact .inr ⟨.tup av, v, e, iv, fun hR q => wpAny_pyNext_tuple_item z.1 z.2.1 hv fun h' it sb => q h' S2.tk sb fun S' e1 e2 M => ⟨e1 ▸ it, M.tup z.2.1, z.2.2.mono fun _ _ => IsT.mono M⟩⟩
theorem okSrc_Y {nm : Str} {np : Pos} {iter : Expr} {x : XE} (he : Ok c n cx iter x) : OkSrc c n cx top (.Name nm np) iter (xsY x) := okSrc_one fun S loc env F A E Q K hR e P => he S loc env F hR e fun S1 a v L k i => asY_el k i fun b t k e1 => by
  subst e1
  refine KBw.pyIter_bytes (P S1 (srcY b) _ (fun i S => KBw.IsBytesIter S.h S1.h.objs.size b.toArray t i) L k (fun i S2 S3 z k m => z.imp fun o q => ⟨k o q.1, q.2⟩) (fun i S2 z => z.imp fun o q => ⟨q.1, fun w => absurd (q.2.1.symm.trans w) (by decide)⟩)
    (fun i S2 A E Q z q => KBw.pyIter_self z q) (fun S2 e1 e2 M => ⟨_, e1 ▸ Heap.get?_push_size _ rfl, rfl, rfl⟩) fun i S2 z K e => ?_)
  unfold srcY at e
  cases hx : b[i]? with
  | none =>
    rw [hx] at e
    exact .inl ⟨e, fun hR q => KBw.next_end hR.handled z (by rw [List.getElem?_toArray]; exact hx) q⟩
  | some x =>
    rw [hx] at e
    exact .inr ⟨.at (.int x.toNat), _, e, ⟨S2.tk, rfl⟩, fun hR q => KBw.next_item z (by rw [List.getElem?_toArray]; exact hx) fun h' it sb => q h' _ sb fun S' e1 e2 M => (by show KBw.IsBytesIter S'.h _ _ _ _; rw [e1]; exact it)⟩
theorem okSrc_R {K₀ : Frag} {mg mb : Str → Option Value} (B : Bs c K₀ mg mb) {nm f : Str} {np fp pos : Pos} {e : Expr} {x : XE} (hx : cx.scope.names.lookup f = some .globalImplicit) (hm : NameIs mg mb f (.type "range")) (hd : (f == ("__debug__" : Str)) = false) (he : Ok c n cx e x)
    (hp : ∀ env pos, (backTo pos (starEach [e] env)) = [(false, eval e env)]) : OkSrc c n cx top (.Name nm np) (.Call (.Name f fp) [e] [] pos) (xsR x) := okSrc_one fun S loc env F A E Q K hR k P =>
  Call_ (name_at B F hx hm hd (callWith_of (P := fun h => Ext c.h₀ h) (by rw [hp]; rfl) keep_type (evalArgs_any (by rw [hp]; rfl) (by
    rw [hp]
    refine spliced_cons (he S loc env F hR k fun S0 a v L k i => spliced_nil ⟨S0.rep.keep, asI_el k i fun z t k e1 => ?_⟩)
    subst e1
    have sz : Builtin.Range.rangeSize 0 z 1 = (z.toNat : Int) := by rw [rangeSize_nat, Int.sub_zero]
    refine call_range_1 (wpAny_pyIter_range (r := S0.h.objs.size) (Heap.get?_push_size S0.h rfl) (small_one (by decide) (by decide) (Int.le_trans (by decide) k.1.1) (Int.lt_trans k.1.2 (by decide))) ?_)
    have L1 := L.trans (.ext (S := S0) ext_push (h' := S0.h.push { cls := .type "range", data := .fields #[.int 0 S0.tk, .int z t, .int 1 (S0.tk + 1)] }) (S0.tk + 1 + 1))
    refine P (S0.ext ext_push (S0.tk + 1 + 1)) (srcR z.toNat) _ (fun i S => ∃ l : Int, l = (z.toNat : Int) - i ∧ IsRangeIter S.h (S0.h.push { cls := .type "range", data := .fields #[.int 0 S0.tk, .int z t, .int 1 (S0.tk + 1)] }).objs.size i l 1) L1 k.2 (fun i S2 S3 z k m => z.imp fun l q => ⟨q.1, k _ q.2⟩) (fun i S2 z => z.elim fun l q => ⟨_, q.2, fun w => absurd (show Value.type "range_iterator" = .type "tuple" from w) (by decide)⟩)
      (fun i S2 A E Q z q => z.elim fun l w => wpAny_pyIter_rangeiter w.2 q) (fun S2 e1 e2 M => ⟨_, (Int.sub_zero _).symm, by rw [e1]; exact sz ▸ Heap.get?_push_size _ rfl⟩) fun i S2 ⟨l, el, w⟩ K e => ?_
    unfold srcR at e
    by_cases hi : i < z.toNat
    · rw [decide_eq_true hi] at e
      exact .inr ⟨.at (.int i), _, e, ⟨S2.tk, rfl⟩, fun hR q => wpAny_pyNext_range_item w (by omega) fun h' it sb => q h' _ sb fun S' e1 e2 M => ⟨l - 1, by omega, e1 ▸ it⟩⟩
    · rw [decide_eq_false hi] at e
      exact .inl ⟨e, fun hR q => wpAny_pyNext_range_end hR.handled w (by omega) q⟩))))
end
end
end Og
end

section
open PySem PySem.W PySem.Calls PyProof.Rows PySem.SeqAt
set_option Elab.async false
set_option linter.unusedVariables false
set_option genSizeOf false
set_option genInjectivity false
namespace Og

/-! enumerate -/
section
variable {c : Cf} {n : Nat} {cx : Ctx} {S S1 S2 : Sit c} {loc : Loc} {env : Env} {own : List Addr}
theorem call_1 {K₀ : Frag} {mg mb : Str → Option Value} (B : Bs c K₀ mg mb) {f : Str} {fp pos : Pos} {e : Expr} {x : XE} {fv : Value} (hx : cx.scope.names.lookup f = some .globalImplicit) (hm : NameIs mg mb f fv) (hd : (f == ("__debug__" : Str)) = false) (hk : KeepOk c fv) (he : Ok c n cx e x)
    (hp : ∀ env pos, (backTo pos (starEach [e] env)) = [(false, eval e env)]) {A E} {Q : Value → Shared → Prop} {K : KV} (hR : Room n A) (F : FrameIs cx S loc env) (k : x loc S.led K) (P : ∀ S1 a v, Le noX S S1 → K a S1.led → S1.Is a v → wpAny c.m A (call fv [v]) Q E S1.s) : wpAny c.m A (eval (.Call (.Name f fp) [e] [] pos) env) Q E S.s :=
  Call_ (name_at B F hx hm hd (callWith_of (P := fun h => Ext c.h₀ h) (by rw [hp]; rfl) hk (evalArgs_any (by rw [hp]; rfl) (by
    rw [hp]
    exact spliced_cons (he S loc env F hR k fun S1 a v L k i => spliced_nil ⟨S1.rep.keep, P S1 a v L k i⟩)))))
theorem okSrc_E {K₀ : Frag} {mg mb : Str → Option Value} (B : Bs c K₀ mg mb) {elts : List Expr} {k0 : Nat} {f : Str} {np fp pos : Pos} {e : Expr} {x : XE} (hx : cx.scope.names.lookup f = some .globalImplicit) (hm : NameIs mg mb f (.type "enumerate")) (hd : (f == ("__debug__" : Str)) = false) (he : Ok c n cx e x)
    (hp : ∀ env pos, (backTo pos (starEach [e] env)) = [(false, eval e env)]) : OkSrc c n cx false (.Tuple elts k0 np) (.Call (.Name f fp) [e] [] pos) (xsE x) := fun S loc env F A E Q K hR k P =>
  call_1 B hx hm hd keep_type he hp hR F k fun S1 a v L k i => list_el k i fun j r xs items m k e1 hj g p => by
  subst e1
  have rb : r < S1.h.objs.size := Heap.lt_size g
  have fr : ∀ b ∈ [S1.h.objs.size + 1, S1.h.objs.size], S1.h.get? b = none := fun b m => by
    cases q : S1.h.get? b with
    | none => rfl
    | some o =>
      have w : b < S1.h.objs.size := Heap.lt_size q
      rcases List.mem_cons.mp m with z | z
      · exact absurd (z ▸ w : S1.h.objs.size + 1 < S1.h.objs.size) (by omega)
      · exact absurd (List.mem_singleton.mp z ▸ w : S1.h.objs.size < S1.h.objs.size) (Nat.lt_irrefl _)
  refine call_enumerate_list (isList g) fun h' he' hi' hz kk => ?_
  have L2 := Le.ext (S := S1) kk S1.tk
  refine wpAny_pyIter_enum he' (P (S1.ext kk S1.tk) (srcE j) _ [S1.h.objs.size + 1, S1.h.objs.size] (fun i S => (∃ old, IsEnum S.h (S1.h.objs.size + 1) S1.h.objs.size i old) ∧ S.h.IsListIter S1.h.objs.size r i ∧ S.rs[j]? = some r)
    (L.trans L2) ⟨fun i S2 S3 z k m => ⟨z.1.imp fun old q => k _ (List.mem_cons_self ..) _ q, z.2.1.imp fun o q => ⟨k _ (List.mem_cons_of_mem _ (List.mem_singleton.mpr rfl)) o q.1, q.2⟩, (m rfl).2 _ _ z.2.2⟩, fun i S2 z b m => ?_, fun i S2 A E Q z q => z.1.elim fun old w => wpAny_pyIter_enum w q, fun i S2 z hx A E Q1 Q2 K hR e P1 P2 => ?_⟩
    ⟨⟨_, he'⟩, hi', hj⟩ (fun b m => ⟨L.dom _ (fr b m), fun z => (S1.rep.mem z).elim fun o q => by rw [fr b m] at q; cases q.1⟩) k)
  · rcases List.mem_cons.mp m with e | m
    · exact e ▸ z.1.elim fun old q => ⟨_, q, fun w => absurd (show Value.type "enumerate" = .type "tuple" from w) (by decide)⟩
    · exact List.mem_singleton.mp m ▸ z.2.1.imp fun o q => ⟨q.1, fun w => absurd (q.2.1.symm.trans w) (by decide)⟩
  · obtain ⟨⟨old, he⟩, hit, hjr⟩ := z
    have t : ∀ b ∈ [S1.h.objs.size + 1, S1.h.objs.size], ∃ o, S2.h.get? b = some o ∧ o.cls ≠ .type "tuple" := fun b m => by
      rcases List.mem_cons.mp m with e | m
      · exact e ▸ ⟨_, he, fun w => absurd (show Value.type "enumerate" = .type "tuple" from w) (by decide)⟩
      · exact List.mem_singleton.mp m ▸ hit.imp fun o q => ⟨q.1, fun w => absurd (q.2.1.symm.trans w) (by decide)⟩
    refine list_el (S := S2) (a := .obj j) (v := .ref r) e ⟨r, rfl, hjr⟩ fun _ r' xs items m k e1 _ g p => ?_
    cases e1
    have ne : r ≠ S1.h.objs.size := Nat.ne_of_lt rb
    have ne1 : S1.h.objs.size + 1 ≠ S1.h.objs.size := Nat.succ_ne_self _
    have D := Draws.list (prog := c.prog) (w := c.w) (A := A.in1) hR.handled S1.h.objs.size r ne items
    have hl : xs.length = items.size := p.length
    cases hx' : xs[i]? with
    | none =>
      rw [hx'] at k
      have : i = items.size := Nat.le_antisymm (hl ▸ k.1) (hl ▸ List.getElem?_eq_none_iff.mp hx')
      subst this
      exact wpAny_pyNext_enum_endD D he ⟨hit, isList g⟩ fun h' k' => P1 (S2.mine hx t (fun b o m => k' b o fun z => m (List.mem_cons_of_mem _ (List.mem_singleton.mpr z))) S2.tk) (.of hx t (fun b o m => k' b o fun z => m (List.mem_cons_of_mem _ (List.mem_singleton.mpr z))) S2.tk) k.2
    | some av =>
      rw [hx'] at k
      refine asT_el k.2 fun ys e2 kk => ?_
      subst e2
      refine Paired.get p hx' fun v hv iv => ?_
      rw [Array.getElem?_toList] at hv
      refine wpAny_pyNext_enum_itemD D he ⟨hit, isList g⟩ (hl ▸ (List.getElem?_eq_some_iff.mp hx').1) ne1 (fun z => by
        rcases List.mem_cons.mp z with z | z
        · exact ne1 z
        · exact absurd rb (by rw [← List.mem_singleton.mp z]; exact Nat.not_lt.mpr (Nat.le_succ _))) fun u h1 tk hu ho st1 ht hz1 k1 => ?_
      cases hv.symm.trans hu
      refine wpAny_letOwnedTupleGo_enum ho fun h2 he2 sb => ?_
      have hlt : ∀ b ∈ [S1.h.objs.size + 1, S1.h.objs.size], b ≠ S2.h.objs.size := fun b m => (t b m).elim fun o q => Nat.ne_of_lt (Heap.lt_size q.1)
      have kk2 : ∀ b o, b ∉ [S1.h.objs.size + 1, S1.h.objs.size] → S2.h.get? b = some o → h2.get? b = some o := fun b o m e => (sb.2 b fun z => m (List.mem_cons.mpr (.inl z))).trans (k1 b o (fun z => m (List.mem_cons.mpr (.inl z))) (fun z => m (List.mem_cons_of_mem _ (List.mem_singleton.mpr z))) e)
      have M := (LeO.of hx t kk2 (tk + 1)).mv
      exact P2 (S2.mine hx t kk2 (tk + 1)) (.two i ys) _ (.of hx t kk2 (tk + 1)) kk ⟨_, tk, v, rfl, ⟨_, (sb.2 _ (hlt _ (List.mem_cons_self ..)).symm).trans ht, rfl, _, rfl⟩, iv.mono M⟩ ⟨⟨v, by exact_mod_cast he2⟩, st1.1.at fun o e => (sb.2 _ ne1.symm).trans e, hjr⟩
end
end Og
end

section
open PySem PySem.W PySem.Calls PyProof.Rows PySem.SeqAt
set_option Elab.async false
set_option linter.unusedVariables false
set_option genSizeOf false
set_option genInjectivity false
namespace Og

/-! comprehensions: a frame of their own -/
def relab (sc s0 : Scope) : Scope := { sc with names := sc.names.map fun (n, k) => if (k == .free && s0.kind == .function && s0.names.lookup n == some .cell) then (n, .cell) else (n, k) }
def inCx (cx : Ctx) (sc : Scope) (x : Str) (fs : List Str) : Ctx := ⟨relab sc cx.scope, x :: fs⟩
def inB (cx : Ctx) (sc : Scope) (x : Str) (fs : List Str) (is : List Nat) : Bool :=
  decide (sc.kind = .function) && (sc.names.all fun y => decide (y.2 ≠ .cell) && (decide (y.2 ≠ .free) || decide (y.1 ∈ fs)) && (decide (y.2 ≠ .local) || decide (sc.names.lookup y.1 = some .local))) &&
  (fs.all fun f => decide (cx.scope.names.lookup f = some .cell) && decide ((relab sc cx.scope).names.lookup f = some .cell)) && decide (sc.names.lookup x = some .local) && decide (is.map (cx.slots[·]?) = fs.map some) && decide (x :: fs).Nodup
def inLoc (loc : Loc) (is : List Nat) (v : Option AV) : Loc := v :: is.map fun i => loc[i]?.join
def xLC (x : XSrc) (is : List Nat) (elt : XE) : XE := fun loc led K => x loc led fun s l => ∃ (N : Nat) (I : Nat → Led → Prop), I 0 (l ++ [.list []]) ∧ ∀ i l', I i l' → s i l' fun o => Option.casesOn o (K (.obj l.length) l') fun v => i < N ∧ elt (inLoc loc is (some v)) l' fun y l2 => fAppend (.obj l.length) y l2 fun _ l3 => I (i + 1) l3

section
variable {c : Cf} {n : Nat} {cx : Ctx} {S S1 S2 : Sit c} {loc : Loc} {env : Env} {own : List Addr}
theorem closure_is {ns : List (Str × NameKind)} (h : ∀ y ∈ ns, y.2 = .free → ∃ a, env.cells.lookup y.1 = some a) : ∀ cs : List (Str × Addr), ∃ cl : List (Str × Addr),
    (forIn ns cs fun (x : Str × NameKind) r => match x with | (name, kind) => if kind == .free then (do let __do_lift ← cellOf env name; pure (ForInStep.yield ((name, __do_lift) :: r))) else pure (ForInStep.yield r) : Sem _) = pure cl ∧
    (∀ p ∈ cl, p ∈ cs ∨ env.cells.lookup p.1 = some p.2) ∧ (∀ p ∈ cs, p ∈ cl) ∧ ∀ y ∈ ns, y.2 = .free → ∃ a, (y.1, a) ∈ cl := by
  induction ns with
  | nil => exact fun cs => ⟨cs, rfl, fun p m => .inl m, fun p m => m, fun _ m => nomatch m⟩
  | cons y r ih =>
    intro cs
    obtain ⟨nm, k⟩ := y
    have ih := ih fun y m => h y (List.mem_cons_of_mem _ m)
    by_cases hk : k = .free
    · subst hk
      obtain ⟨a, ha⟩ := h (nm, .free) (List.mem_cons_self ..) rfl
      obtain ⟨cl, e, h1, h2, h3⟩ := ih ((nm, a) :: cs)
      refine ⟨cl, ?_, fun p m => (h1 p m).elim (fun z => (List.mem_cons.mp z).elim (fun z => .inr (by rw [z]; exact ha)) .inl) .inr, fun p m => h2 p (List.mem_cons_of_mem _ m), fun y m z => (List.mem_cons.mp m).elim (fun q => ⟨a, by rw [q]; exact h2 _ (List.mem_cons_self ..)⟩) fun m => h3 y m z⟩
      rw [List.forIn_cons, ← e]
      have ec : cellOf env nm = pure a := by unfold cellOf; rw [show env.cells.lookup nm = some a from ha]
      show ((do let q ← cellOf env nm; pure (ForInStep.yield ((nm, q) :: cs))) >>= _) = _
      rw [ec]
      rfl
    · obtain ⟨cl, e, h1, h2, h3⟩ := ih cs
      refine ⟨cl, ?_, h1, h2, fun y m z => (List.mem_cons.mp m).elim (fun q => absurd (by rw [q] at z; exact z) hk) fun m => h3 y m z⟩
      rw [List.forIn_cons, ← e]
      show ((if (k == NameKind.free) = true then _ else _) >>= _) = _
      rw [if_neg (by rw [beq_iff_eq]; exact hk)]
      rfl
theorem lookup_some {l : List (Str × Addr)} {x : Str} {a : Addr} (m : (x, a) ∈ l) : ∃ b, l.lookup x = some b := by
  induction l with
  | nil => cases m
  | cons p r ih =>
    rw [List.lookup_cons]
    cases q : x == p.1 with
    | true => exact ⟨_, rfl⟩
    | false => exact (List.mem_cons.mp m).elim (fun z => by rw [← z, beq_self_eq_true] at q; cases q) ih
theorem comp_in (F : FrameIs cx S loc env) {sc : Scope} {x : Str} {fs : List Str} {is : List Nat} (hb : inB cx sc x fs is = true) : sc.kind = .function ∧ (∀ y ∈ sc.names, y.2 ≠ .cell) ∧ (∀ y ∈ sc.names, y.2 = .local → sc.names.lookup y.1 = some .local) ∧ sc.names.lookup x = some .local ∧ (x :: fs).Nodup ∧ relabel sc env = relab sc cx.scope ∧
    ∃ cl, closureFor sc env = pure cl ∧ (∀ y a, cl.lookup y = some a → env.cells.lookup y = some a) ∧
    ∀ {S' : Sit c} {C : Addr} {h' : Heap} {m} {v : Option AV} (k : Ext S'.h h') (tk : Nat), FrameIs cx S' loc env → S.h.get? C = none → C ∉ S'.rs → h'.Ns C m → (∀ av, v = some av → ∃ u, S'.Is av u ∧ m x = some u) → FrameIs (inCx cx sc x fs) (S'.ext k tk) (inLoc loc is v) (compEnvC sc cl C env) := by
  unfold inB at hb
  simp only [Bool.and_eq_true, decide_eq_true_eq, List.all_eq_true, Bool.or_eq_true] at hb
  obtain ⟨⟨⟨⟨⟨hk, hn⟩, hf⟩, hx⟩, hs⟩, hd⟩ := hb
  have rl : relabel sc env = relab sc cx.scope := by rw [← F.eo.scope]; rfl
  have free : ∀ y ∈ sc.names, y.2 = .free → ∃ a, env.cells.lookup y.1 = some a := fun y m z => F.eo.has _ (hf _ (((hn y m).1.2).elim (fun q => absurd z q) id)).1
  obtain ⟨cl, e, h1, _, h3⟩ := closure_is free []
  have sub : ∀ y a, cl.lookup y = some a → env.cells.lookup y = some a := fun y a q => (h1 _ (mem_of_lookup q)).elim (fun z => nomatch z) id
  have has : ∀ y, (relab sc cx.scope).names.lookup y = some .cell → ∃ a, cl.lookup y = some a := fun y q => by
    obtain ⟨⟨y', k'⟩, m, e'⟩ := List.mem_map.mp (mem_of_lookup q)
    have hy := hn _ m
    have : k' = .free ∧ y' = y := by
      dsimp only at e'
      split at e'
      · next z => cases e'; exact ⟨beq_iff_eq.mp (Bool.and_eq_true_iff.mp (Bool.and_eq_true_iff.mp z).1).1, rfl⟩
      · cases e'; exact absurd rfl hy.1.1
    obtain ⟨rfl, rfl⟩ := this
    obtain ⟨a, ha⟩ := h3 _ m rfl
    exact lookup_some ha
  refine ⟨hk, fun y m => (hn y m).1.1, fun y m z => (hn y m).2.elim (fun q => absurd z q) id, hx, hd, rl, cl, ?_, sub, fun {S' C h' m v} k tk F' hC hCr hN hv => ?_⟩
  · unfold closureFor
    show (forIn sc.names [] _ >>= fun r => pure r) = _
    exact (congrArg (· >>= fun r => pure r) e).trans rfl
  · have held := fun b x => F.held b x
    refine ⟨⟨rl, hk, F.eo.globals, F.eo.builtins, fun b z => z.elim (fun q => S.rep.new' (by rw [show b = C from q]; exact hC)) fun ⟨y, q⟩ => F.eo.new b (.inr ⟨y, sub y b q⟩), fun y a q z => held a (.inr ⟨y, sub y a q⟩) (by rw [show a = C from z]; exact hC), fun y z a q1 q2 => F.eo.apart y z a (sub y a q1) (sub z a q2), has⟩,
      fun b z => z.elim (fun q => by rw [show b = C from q]; exact hCr) fun ⟨y, q⟩ => F'.out b (.inr ⟨y, sub y b q⟩), fun y a q => (F'.cells y a (sub y a q)).imp fun u z => z.imp fun o w => ⟨k _ _ w.1, w.2⟩, m, hN, fun i y av q1 q2 => ?_⟩
    cases i with
    | zero =>
      cases q1
      obtain ⟨u, iu, hu⟩ := hv av (Option.some.inj q2)
      exact ⟨u, iu.mono k.mv, .inl ⟨lookup_relabel_local hx, hu⟩⟩
    | succ j =>
      have q1 : fs[j]? = some y := q1
      have q2 : (is.map fun i => loc[i]?.join)[j]? = some (some av) := q2
      rw [List.getElem?_map] at q2
      obtain ⟨ij, e1, e2⟩ := Option.map_eq_some_iff.mp q2
      have e3 : cx.slots[ij]? = some y := by
        have : (is.map (cx.slots[·]?))[j]? = (fs.map some)[j]? := by rw [hs]
        rw [List.getElem?_map, List.getElem?_map, e1, q1] at this
        exact Option.some.inj this
      have e4 : loc[ij]? = some (some av) := by
        cases z : loc[ij]? with
        | none => rw [z] at e2; cases e2
        | some o => rw [z] at e2; exact congrArg some e2
      obtain ⟨m', _, hl⟩ := F'.ns
      obtain ⟨u, iu, H⟩ := hl ij y av e3 e4
      have fy := hf y (List.mem_of_getElem? q1)
      have ky : env.kindOf y = some .cell := by show env.scope.names.lookup y = _; rw [F.eo.scope]; exact fy.1
      refine ⟨u, iu.mono k.mv, ?_⟩
      rcases H with ⟨p, _⟩ | ⟨_, a, p, o, e, d⟩
      · rw [ky] at p; cases p
      · have fc : (relabel sc env).names.lookup y = some .cell := by rw [rl]; exact fy.2
        obtain ⟨a', ha'⟩ := has y fy.2
        have : a' = a := Option.some.inj ((sub y a' ha').symm.trans p)
        exact .inr ⟨.inl fc, a, this ▸ ha', o, k _ _ e, d⟩
theorem go_back {nm : Str} {np : Pos} {it v : Value} {A : Around} {E E' : Value → Shared → Prop} {s : Shared} {α : Type} {t : Sem α} {Q : α → Shared → Prop} (h : wpAny c.m A (letOwnedTupleGo (.Name nm np) it v) (fun _ s => wpAny c.m A t Q E s) E' s) : wpAny c.m A t Q E s := fun Γ p hΓ => h Γ p hΓ Γ p hΓ
theorem next_name {top : Bool} {nm : Str} {np : Pos} {it : Value} {src : Src} {St : Nat → Sit c → Prop} (T : Turns c n top (.Name nm np) it own src St) {i : Nat} (st : St i S) (hx : ∀ b ∈ own, b ∉ S.rs ∧ c.h₀.get? b = none) {A : Around} {E : Value → Shared → Prop} {Q1 : Shared → Prop} {K : Option AV → Prop}
    (t : Value → Sem Unit) (Q3 : Value → Unit → Shared → Prop) (hR : Room n A) (e : src i S.led K) (P1 : ∀ S', LeO own S S' → K none → Q1 S'.s) (P2 : ∀ S' av v, LeO own S S' → K (some av) → S'.Is av v → St (i + 1) S' → wpAny c.m A (t v) (Q3 v) E S'.s) :
    wpAny c.m A (pyNext it) (fun r s => match r with | none => Q1 s | some v => wpAny c.m A (t v) (Q3 v) E s) E S.s :=
  wpAny_mono (T.next i S st hx (Q2 := fun v s => wpAny c.m A (t v) (Q3 v) E s) hR e P1 P2) (fun r s h => by
    cases r with
    | none => exact h
    | some v => exact go_back h) fun _ _ e => e
theorem ok_listcomp {elt iter : Expr} {x : Str} {px pos : Pos} {sc : Scope} {fs : List Str} {is : List Nat} {xs : XSrc} {xe : XE} (hb : inB cx sc x fs is = true) (hx : OkSrc c n cx false (.Name x px) iter xs) (he : Ok c n (inCx cx sc x fs) elt xe) (hs : ∀ env v, foldedSetIterable iter env v = pure v) :
    Ok c n cx (.ListComp elt [⟨.Name x px, iter, [], 0⟩] sc pos) (xLC xs is xe) := fun S loc env F A E Q K hR e P => by
  obtain ⟨hk, hc, hl, hx1, hd, rl, cl, ecl, sub, fin⟩ := comp_in F hb
  rw [eval_ListComp]
  refine wpAny_comprehension_free (use := none) rfl (hs env) ecl hk hl (hx S loc env F hR e fun S1 src it own St L0 T st0 ap e => newList_ok (S := S1) .nil (Nat.zero_le _) fun S2 v L2 el i2 => wpAny_newFunctionEnv hc (fun _ m => nomatch m) (fun h' hns hsb => ?_) hk)
  obtain ⟨N, I, i0, step⟩ := e
  obtain ⟨a, rfl, ha⟩ := i2
  have kE : Ext S2.h h' := ext_of (fun b o z w => hsb.extBut b o z (Heap.get?_push_of_some _ w))
  have L02 := L0.trans L2
  have hC : S.h.get? S2.h.objs.size = none := L02.dom _ (size_none _)
  have hxl : (relab sc cx.scope).names.lookup x = some .local := by rw [← rl]; exact lookup_relabel_local hx1
  have F3 := fin (v := none) kE S2.tk (F.le L02) hC (fun z => (S2.rep.mem z).elim fun o q => by rw [size_none] at q; cases q.1) hns (fun _ z => nomatch z)
  have L3 : Le (· = S2.h.objs.size) S (S2.ext kE S2.tk) := (L02.trans (.ext kE S2.tk)).to
  have st3 : St 0 (S2.ext kE S2.tk) := T.frame 0 S1 _ st0 (fun b m o q => (L2.trans (.ext kE S2.tk)).kp b o q (ap b m).2 id) fun _ => (L2.trans (.ext kE S2.tk)).mv
  have nb : ∀ b ∈ own, S.h.get? b = none := fun b m => (ap b m).1
  have lp : ∀ s, s = (S2.ext kE S2.tk).s → codeAny c.m A (.compLoop (.ListComp elt [⟨.Name x px, iter, [], 0⟩] sc pos) 0 it (.ref a) (compEnvC sc cl S2.h.objs.size env)) (compPost c.m A E none Q (.ref a) S2.h.objs.size) s := fun s es => by
    subst es
    refine codeAny_compLoop_tests (fun k s => ∃ i S' o, s = S'.s ∧ k = N - i ∧ I i S'.led ∧ FrameIs (inCx cx sc x fs) S' (inLoc loc is o) (compEnvC sc cl S2.h.objs.size env) ∧ St i S' ∧ Apart own (compEnvC sc cl S2.h.objs.size env) S' ∧ Le (· = S2.h.objs.size) S S' ∧ S'.rs[S1.led.length]? = some a) ?_ N
      ⟨0, _, none, rfl, rfl, el ▸ i0, F3, st3, fun b m => ?_, L3, ha⟩
    · rintro k s ⟨i, S', o, rfl, rfl, hi, F', st, ap', L', ha'⟩
      refine next_name T st (fun b m => ⟨(ap' b m).1, S.rep.new' (nb b m)⟩) (Q1 := fun s => compPost c.m A E none Q (.ref a) S2.h.objs.size (.ok .next) s) _ _ hR (step i S'.led hi) (fun S4 l4 k4 => ?_) fun S4 av v l4 k4 iv st4 => ?_
      · have F4 := F'.leO ap' l4
        obtain ⟨m4, hm4, _⟩ := F4.ns
        refine ⟨m4, hm4, fun h5 k5 => ?_⟩
        have L4 := L'.mine nb l4
        have nc : ∀ b o, S.h.get? b = some o → b ≠ S2.h.objs.size := fun b o e z => by rw [z, hC] at e; cases e
        exact P (S4.frame F4 (.inl rfl) (kpA k5) S4.tk) (.obj S1.led.length) (.ref a) ⟨L4.fresh, fun b o e m _ => (k5.2 b (nc b o e)).trans (L4.kp b o e m (nc b o e)), fun b e => (Classical.em (b = S2.h.objs.size)).elim (fun z => z ▸ hC) fun z => L4.dom b ((k5.2 b z).symm.trans e),
          fun b o xs m e cl d => (k5.2 b (nc b o e)).trans (L4.mv.1 b o xs m e cl d), L4.mv.2⟩ (l4.led ▸ k4) ⟨a, rfl, l4.rs ▸ ha'⟩
      · have F4 := F'.leO ap' l4
        have L4 := L'.mine nb l4
        refine wpAny_assign_Name (store_slot (i := 0) F4 rfl hd (.inl hxl) iv fun S5 b xb hbl L5 el5 F5 => wpAny_tests_nil ?_)
        have hb' : b = S2.h.objs.size := hbl hxl
        subst hb'
        have L6 := L4.trans L5
        have ap5 : Apart own (compEnvC sc cl S2.h.objs.size env) S5 := fun b m => ⟨fun z => ?_, (ap' b m).2⟩
        · refine he S5 _ _ F5 hR (by rw [el5, l4.led]; exact k4.2) fun S6 y vy L7 k7 i7 => ?_
          refine append_ok S6 (.obj S1.led.length) y (.ref a) vy ⟨a, rfl, L7.mv.2 _ _ (L5.mv.2 _ _ (l4.rs ▸ ha'))⟩ i7 hR k7 fun S7 _ _ L8 k8 _ => ?_
          have L78 := L7.trans L8
          refine ⟨N - (i + 1), Nat.sub_lt_sub_left k4.1 (Nat.lt_succ_self i), i + 1, S7, some av, rfl, rfl, k8, F5.le L78, ?_, fun b m => ⟨fun z => ?_, (ap' b m).2⟩, L6.trans L78.to, L78.mv.2 _ _ (L5.mv.2 _ _ (l4.rs ▸ ha'))⟩
          · exact T.frame _ _ _ (T.frame _ _ _ st4 (fun b m o q => L5.kp b o q (l4.rs ▸ (ap' b m).1) fun z => (ap' b m).2 (.inl z)) fun _ => L5.mv) (fun b m o q => L78.kp b o q (ap5 b m).1 id) fun _ => L78.mv
          · exact (T.live _ _ (T.frame _ _ _ st4 (fun b m o q => L5.kp b o q (l4.rs ▸ (ap' b m).1) fun z => (ap' b m).2 (.inl z)) fun _ => L5.mv) b m).elim fun o q => by rw [L78.fresh b z (ap5 b m).1] at q; cases q.1
        · exact (T.live _ _ st4 b m).elim fun o q => by rw [L5.fresh b z (l4.rs ▸ (ap' b m).1)] at q; cases q.1
    · obtain ⟨o, q, _⟩ := T.live 0 S1 st0 b m
      refine ⟨fun z => (by rw [L2.fresh b z (ap b m).2] at q; cases q), fun z => z.elim (fun z => ?_) fun ⟨y, z⟩ => F.held b (.inr ⟨y, sub y b z⟩) (nb b m)⟩
      have q2 := L2.kp b o q (ap b m).2 id
      rw [show b = S2.h.objs.size from z, size_none] at q2; cases q2
  exact codeAny_compStart_list (lp _ rfl) (T.self 0 _ _ _ _ st3 (lp _ rfl))
end
end Og
end

section
open PySem PySem.W PySem.Calls PyProof.Rows PySem.SeqAt
set_option Elab.async false
set_option linter.unusedVariables false
set_option genSizeOf false
set_option genInjectivity false
namespace Og

abbrev kvP := List At × Int
/-- {key: val for key in x if t}: what t and val say of each key -/
def xDC (x : XE) (is : List Nat) (t : XT) (val : XE) : XE := fun loc led K => x loc led fun v l => asDict v l fun _ b es => ∃ (p : List At → Bool) (g : List At → Int),
  (small es ∧ ∀ e ∈ es, e.1.all (ofKind b) = true ∧ t (inLoc loc is (some (.tup e.1))) l (fun r _ => r = p e.1) ∧ (p e.1 = true → val (inLoc loc is (some (.tup e.1))) l fun r _ => r = .at (.int (g e.1)))) ∧ K (.obj l.length) (l ++ [.dict b ((es.filter fun e => p e.1).map fun e => (e.1, g e.1))])
section
variable {c : Cf} {n : Nat} {cx : Ctx} {S S1 S2 : Sit c} {loc : Loc} {env : Env} {own : List Addr}
def OkQT (c : Cf) (n : Nat) (cx : Ctx) (e : Expr) (t : XT) : Prop := ∀ (S : Sit c) loc env, FrameIs cx S loc env → ∀ {A E} {Q : Bool → Shared → Prop} {K : Bool → Led → Prop}, Room n A → t loc S.led K → (∀ r tk, K r S.led → Q r (S.tok tk).s) → wpAny c.m A (isTrue e env (eval e env)) Q E S.s
theorem okQT_no {e : Expr} : OkQT c n cx e (fun _ _ _ => False) := fun _ _ _ _ _ _ _ _ _ e _ => e.elim
theorem binQ {l r : Expr} {xl xr : XE} {f : F2} {t : Value → Value → Sem Value} {A : Around} {E Q : Value → Shared → Prop} {K : KV} (hl : OkQ c n cx l xl) (hr : OkQ c n cx r xr) (hf : Qt2 c n t f) (F : FrameIs cx S loc env) (hR : Room n A)
    (e : x2 f xl xr loc S.led K) (P : ∀ r v tk, K r S.led → S.Is r v → Q v (S.tok tk).s) : wpAny c.m A (eval l env) (fun a s1 => wpAny c.m A (eval r env) (fun b s2 => wpAny c.m A (t a b) Q E s2) E s1) E S.s :=
  hl S loc env F hR e fun a va t1 k1 i1 => hr (S.tok t1) loc env (F.le (.tok _)) hR k1 fun b vb t2 k2 i2 => hf (S.tok t2) a b va vb i1 i2 hR k2 fun r v t3 k i => P r v t3 k i
theorem qT_cmp {l r : Expr} {op : CmpOp} {pos : Pos} {xl xr : XE} {f : F2} (hl : OkQ c n cx l xl) (hr : OkQ c n cx r xr) (hf : Qt2 c n (compareOp op) f) (hm : behindInMarks op r = false) : OkQT c n cx (.Compare l [op] [r] pos) (tVal (x2 f xl xr)) :=
  fun S loc env F A E Q K hR e P => wpAny_isTrue_Compare1 (binQ hl hr hf F hR e fun a v tk k i => truthy_b i k fun b k => P b tk k) hm
theorem q_sub2 {value slice : Expr} {pos : Pos} {xv xi : XE} (hv : OkQ c n cx value xv) (hi : OkQ c n cx slice xi) (hs : ∀ o i, ∃ ops, subscripted slice false o i = operate ops (getItem o i)) : OkQ c n cx (.Subscript value slice pos) (x2 fItem xv xi) :=
  fun S loc env F A E Q K hR e P => Subscript_ (binQ hv hi (q_tail hs) F hR e P)
theorem mono_one {h h' : Heap} {rs : List Addr} {a : Addr} (k : KpA a h h') (t : ∀ o xs n, h.get? a = some o → o.data = .seq xs n → False) : MonoV h h' rs rs :=
  ⟨fun b o xs n e _ d => k b o (fun z => t o xs n (z ▸ e) d) e, fun _ _ e => e⟩
theorem take_snoc {α : Type} {xs : List α} {i : Nat} {x : α} (e : xs[i]? = some x) : xs.take (i + 1) = xs.take i ++ [x] := by
  rw [List.take_add_one, e]; rfl
theorem put_new {k : List At} {z : Int} {es : List kvP} (h : k ∉ es.map (·.1)) : put k z es = es ++ [(k, z)] := if_neg fun q => by
  obtain ⟨e, m, d⟩ := List.any_eq_true.mp q
  exact h (of_decide_eq_true d ▸ List.mem_map_of_mem m)
theorem paired_keys {es : List kvP} {kvs : List (List At × Addr × Value)} (p : Paired HEnt es kvs) : es.map (·.1) = kvs.map (·.1) := by
  induction p with
  | nil => rfl
  | cons a _ ih => rw [List.map_cons, List.map_cons, ih, a.1]
theorem ok_dictcomp {kx vx iter tst : Expr} {x : Str} {px pos : Pos} {sc : Scope} {fs : List Str} {is : List Nat} {xe xv : XE} {xt : XT} (hb : inB cx sc x fs is = true) (hx : Ok c n cx iter xe) (ht : OkQT c n (inCx cx sc x fs) tst xt) (hkx : OkQ c n (inCx cx sc x fs) kx (xVar 0)) (hv : OkQ c n (inCx cx sc x fs) vx xv)
    (hs : ∀ env v, foldedSetIterable iter env v = pure v) : Ok c n cx (.DictComp kx vx [⟨.Name x px, iter, [tst], 0⟩] sc pos) (xDC xe is xt xv) := fun S loc env F A E Q K hR e P => by
  obtain ⟨hk, hc, hl, hx1, hd, rl, cl, ecl, sub, fin⟩ := comp_in F hb
  have hxl : (relabel sc env).names.lookup x = some .local := lookup_relabel_local hx1
  rw [arm_eval_DictComp]
  refine wpAny_comprehension_free (use := none) rfl (hs env) ecl hk hl (hx S loc env F hR e fun S1 a v L k i => dict_el k i fun j d b es kvs k1 e1 hj g p => ?_)
  subst e1
  obtain ⟨p?, gv, ⟨hsm, hes⟩, kfin⟩ := k1
  obtain ⟨o, xs, ep, ho, hcl, hda, he, his, hn⟩ := g
  have hz : xs.size = es.length := (size_of_entries he).trans p.length.symm
  refine iter_dict (c := c) (S1.rep.sys hj) ho hcl hda (wpAny_newObj_type (wpAny_newFunctionEnv hc (fun _ m => nomatch m) (fun h3 hns hsb => ?_) hk))
  generalize hh1 : S1.h.push { cls := .type "dict_keyiterator", data := .fields #[.ref d, .int 0 0, .int xs.size 0, .int ep 0] } = h1 at hns hsb
  generalize hh2 : h1.push { cls := .type "dict", dict := none, data := .dict #[] } = h2 at hns hsb
  have k01 : Ext S1.h h1 := hh1 ▸ ext_push
  have k12 : Ext h1 h2 := hh2 ▸ ext_push
  have k23 : Ext h2 h3 := ext_of fun b o z w => hsb.extBut b o z (Heap.get?_push_of_some _ w)
  have none1 : S1.h.get? h1.objs.size = none := dom_ext k01 _ (size_none _)
  have noneC1 : h1.get? h2.objs.size = none := dom_ext k12 _ (size_none _)
  have noneC : S1.h.get? h2.objs.size = none := dom_ext k01 _ noneC1
  have atI : h1.IsKeyIter S1.h.objs.size d 0 xs.size ep := hh1 ▸ ⟨_, Heap.get?_push_size _ rfl, rfl, rfl⟩
  have atD : h2.DictOfH (tupleKind (kd c b)) h1.objs.size [] := hh2 ▸ Heap.DictOfH.new _
  have dI : h1.objs.size ≠ S1.h.objs.size := fun z => by obtain ⟨o, q, _⟩ := atI; rw [← z, size_none] at q; cases q
  have dC : h2.objs.size ≠ h1.objs.size := fun z => by obtain ⟨o, _, _, q, _⟩ := atD; rw [← z, size_none] at q; cases q
  have iC : h2.objs.size ≠ S1.h.objs.size := fun z => by obtain ⟨o, q, _⟩ := atI; rw [← z, noneC1] at q; cases q
  have old : ∀ {b o}, S1.h.get? b = some o → b ≠ S1.h.objs.size ∧ b ≠ h1.objs.size ∧ b ≠ h2.objs.size := fun {b o} e => ⟨fun z => (by rw [z, size_none] at e; cases e), fun z => (by rw [z, none1] at e; cases e), fun z => by rw [z, noneC] at e; cases e⟩
  have F1 := F.le L
  have esn : (es.map (·.1)).Nodup := by rw [paired_keys p]; exact hn
  have lp : ∀ s, s = ({ S1.s with heap := h3, toks := S1.tk } : Shared) → codeAny c.m A (.compLoop (.DictComp kx vx [⟨.Name x px, iter, [tst], 0⟩] sc pos) 0 (.ref S1.h.objs.size) (.ref h1.objs.size) (compEnvC sc cl h2.objs.size env)) (compPost c.m A E none Q (.ref h1.objs.size) h2.objs.size) s := fun s es' => by
    subst es'
    refine codeAny_compLoop_testsD (fun k s => ∃ i h tk m acc, s = { S1.s with heap := h, toks := tk } ∧ k = xs.size - i ∧ Ext S1.h h ∧ h.IsKeyIter S1.h.objs.size d i xs.size ep ∧ h.DictOfH (tupleKind (kd c b)) h1.objs.size acc ∧ h.Ns h2.objs.size m ∧ i ≤ xs.size ∧ Paired HEnt (((es.take i).filter fun e => p? e.1).map fun e => (e.1, gv e.1)) acc) ?_ xs.size
      ⟨0, h3, S1.tk, _, [], rfl, rfl, fun b o e => k23 b o (k12 b o (k01 b o e)), atI.imp fun o q => ⟨k23 _ _ (k12 _ _ q.1), q.2⟩, dictOfH_mono (rs := []) (rs' := []) k23.mv (k23 _) atD, hns, Nat.zero_le _, .nil⟩
    rintro k s ⟨i, h, tk, m, acc, rfl, rfl, kE, hI, hD, hN, hi, pa⟩
    have ho' := kE _ _ ho
    have dd := old ho
    have nI : ∀ o xs n, h.get? S1.h.objs.size = some o → o.data = .seq xs n → False := fun o xs n q z => by obtain ⟨o', q', _, z'⟩ := hI; rw [q] at q'; cases q'; rw [z] at z'; cases z'
    cases hxi : xs[i]? with
    | none =>
      have hie : i = xs.size := Nat.le_antisymm hi (Array.getElem?_eq_none_iff.mp hxi)
      refine (next_head (c := c) (s := { S1.s with heap := h, toks := tk }) hI ho' hda).2 hxi hR.handled fun h4 k4 => ?_
      have N4 : h4.Ns h2.objs.size m := hN.at' fun o q => k4 _ o iC q
      refine ⟨m, N4, fun h5 k5 => ?_⟩
      have kE5 : Ext S1.h h5 := fun b o e => (k5.2 b (old e).2.2).trans (k4 b o (old e).1 (kE b o e))
      have M4 : MonoV h h4 [] [] := mono_one (a := S1.h.objs.size) (fun b o ne q => k4 b o ne q) nI
      have M5 : MonoV h4 h5 [] [] := mono_one (a := h2.objs.size) (kpA k5) fun o xs n q z => by obtain ⟨o', _, _, q', z', _⟩ := N4; rw [q] at q'; cases q'; rw [z] at z'; cases z'
      have hD5 := dictOfH_mono M5 (fun o q => (k5.2 _ dC.symm).trans q) (dictOfH_mono M4 (fun o q => k4 _ o dI q) hD)
      rw [hie, List.take_of_length_le (Nat.le_of_eq hz.symm)] at pa
      have ob : ObjIs c h5 (S1.rs ++ [h1.objs.size]) (.dict b _) h1.objs.size := ⟨acc, hD5, pa⟩
      exact P (S1.grow kE5 none1 ob tk) _ _ (L.trans (.grow kE5 none1 ob tk)) kfin ⟨_, rfl, grow_at S1.rep⟩
    | some en =>
      have hlt : i < es.length := hz ▸ (Array.getElem?_eq_some_iff.mp hxi).1
      have hei := List.getElem?_eq_getElem hlt
      generalize es[i] = e at hei
      obtain ⟨y, hy, iy⟩ : ∃ y, kvs[i]? = some y ∧ HEnt e y := Paired.get p hei fun y a b => ⟨y, a, b⟩
      have hen : en.key = .ref y.2.1 := by
        rw [entry_at he, hy] at hxi
        cases hxi; rfl
      have isk : IsTupleKey (kd c b) S1.h y.1 y.2.1 := his y (List.mem_of_getElem? hy)
      obtain ⟨hall, hte, hve⟩ := hes e (List.mem_of_getElem? hei)
      refine (next_head (c := c) (s := { S1.s with heap := h, toks := tk }) hI ho' hda).1 en hxi fun h4 hI4 k4 => ?_
      have M4 : MonoV h h4 [] [] := mono_one (kpA k4) nI
      have N4 := hN.sameBut k4 iC
      have D4 := dictOfH_mono M4 (fun o q => (k4.2 _ dI).trans q) hD
      refine wpAny_assign_Name (wpAny_storeName_local hxl N4 (fun h5 N5 k5 => ?_) (by show (((relabel sc env).kind == _) || ((relabel sc env).kind == _ && _)) = _; rw [rl]; show ((sc.kind == _) || (sc.kind == _ && _)) = _; rw [hk]; rfl))
      have M5 : MonoV h4 h5 [] [] := mono_one (a := h2.objs.size) (kpA k5) fun o xs n q z => by obtain ⟨o', _, _, q', z', _⟩ := N4; rw [q] at q'; cases q'; rw [z] at z'; cases z'
      have D5 := dictOfH_mono M5 (fun o q => (k5.2 _ dC.symm).trans q) D4
      have kE5 : Ext S1.h h5 := fun b o e => (k5.2 b (old e).2.2).trans ((k4.2 b (old e).1).trans (kE b o e))
      have I5 : h5.IsKeyIter S1.h.objs.size d (i + 1) xs.size ep := hI4.imp fun o q => ⟨(k5.2 _ iC.symm).trans q.1, q.2⟩
      have iT : S1.Is (.tup e.1) (.ref y.2.1) := iy.1 ▸ isT_key isk
      have fr : ∀ t, FrameIs (inCx cx sc x fs) (S1.ext kE5 t) (inLoc loc is (some (.tup e.1))) (compEnvC sc cl h2.objs.size env) := fun t => fin kE5 t F1 (L.dom _ noneC) (fun z => (S1.rep.mem z).elim fun o q => by rw [noneC] at q; cases q.1) N5 fun av z => by cases z; exact ⟨_, iT, by rw [if_pos rfl, hen]⟩
      have next : ∀ s tk, s = (S1.ext kE5 tk).s → ∀ h6 tk6 acc', Ext S1.h h6 → h6.IsKeyIter S1.h.objs.size d (i + 1) xs.size ep → h6.DictOfH (tupleKind (kd c b)) h1.objs.size acc' → (∃ m, h6.Ns h2.objs.size m) → Paired HEnt (((es.take (i + 1)).filter fun e => p? e.1).map fun e => (e.1, gv e.1)) acc' → ∃ k', k' < xs.size - i ∧ ∃ i h tk' m acc, ({ s with heap := h6, toks := tk6 } : Shared) = { S1.s with heap := h, toks := tk' } ∧ k' = xs.size - i ∧ Ext S1.h h ∧ h.IsKeyIter S1.h.objs.size d i xs.size ep ∧ h.DictOfH (tupleKind (kd c b)) h1.objs.size acc ∧ h.Ns h2.objs.size m ∧ i ≤ xs.size ∧ Paired HEnt (((es.take i).filter fun e => p? e.1).map fun e => (e.1, gv e.1)) acc :=
        fun s tk es' h6 tk6 acc' a1 a2 a3 ⟨m6, a4⟩ a5 => ⟨xs.size - (i + 1), Nat.sub_lt_sub_left (hz ▸ hlt) (Nat.lt_succ_self i), i + 1, h6, tk6, m6, acc', by rw [es'], rfl, a1, a2, a3, a4, hz ▸ hlt, a5⟩
      refine wpAny_tests_one (ht (S1.ext kE5 _) _ _ (fr _) hR hte fun r t hr => ?_)
      subst hr
      rw [take_snoc hei, List.filter_append, List.map_append] at next
      cases hp : p? e.1 with
      | false =>
        rw [List.filter_cons_of_neg (by rw [hp]; decide)] at next
        exact next _ t rfl h5 t acc kE5 I5 D5 ⟨_, N5⟩ (by show Paired HEnt (_ ++ []) acc; rw [List.append_nil]; exact pa)
      | true =>
        rw [List.filter_cons_of_pos (by rw [hp])] at next
        refine hkx (S1.ext kE5 t) _ _ (fr t) (K := fun r _ => r = .tup e.1) hR rfl fun r v t1 er iv => ?_
        subst er
        refine hv (S1.ext kE5 t1) _ _ (fr t1) hR (hve hp) fun r u t2 er iu => ?_
        subst er
        refine key_is (c := c) hall iv fun ka ev kk => ?_
        subst ev
        obtain ⟨tz, rfl⟩ := iu
        refine wpAny_dictSet_heap (knd := tupleKind (kd c b)) (s := (S1.ext kE5 t2).s) (hR.u1 (k := 0) (by decide)) kk D5 (fun h6 D6 k6 => ?_) ?_
        · have kn : e.1 ∉ (((es.take i).filter fun e => p? e.1).map fun e => (e.1, gv e.1)).map (·.1) := fun m => by
            rw [List.map_map] at m
            obtain ⟨e', m', q⟩ := List.mem_map.mp m
            have m' := (List.mem_filter.mp m').1
            obtain ⟨j', q'⟩ := List.mem_iff_getElem?.mp m'
            rw [List.getElem?_take] at q'
            split at q'
            · next lt =>
              have := (List.getElem?_inj (i := j') (j := i) (by rw [List.length_map]; exact Nat.lt_trans lt hlt) esn).mp (by rw [List.getElem?_map, List.getElem?_map, q', hei]; exact congrArg some q)
              exact Nat.ne_of_lt lt this
            · cases q'
          rw [storedH_put] at D6
          have pp := Paired.putIn pa (hent_same (k := e.1)) (x := (e.1, gv e.1)) (y := (e.1, ka, Value.int (gv e.1) tz)) (F := fun q => if q.1 = e.1 then (q.1, gv e.1) else q) (G := putAt e.1 (Value.int (gv e.1) tz)) (fun e0 kv y0 => if_pair (hent_same _ _ y0) (x := (e0.1, gv e.1)) (y := (kv.1, kv.2.1, .int (gv e.1) tz)) ⟨y0.1, ⟨tz, rfl⟩⟩ y0) ⟨rfl, ⟨tz, rfl⟩⟩
          have pn : putIn (fun q : kvP => decide (q.1 = e.1)) (fun q => if q.1 = e.1 then (q.1, gv e.1) else q) (e.1, gv e.1) _ = _ := put_new kn
          rw [pn] at pp
          exact next _ t2 rfl h6 _ _ (fun b o q => (k6.2 b (old q).2.1).trans (kE5 b o q)) (I5.imp fun o q => ⟨(k6.2 _ dI.symm).trans q.1, q.2⟩) D6 ⟨_, N5.sameBut k6 dC⟩ pp
        · have := pa.length
          rw [← this, List.length_map]
          exact Nat.le_trans (List.length_filter_le _ _) (Nat.le_trans (List.length_take_le ..) (Nat.le_trans (Nat.le_of_lt hlt) (small_le hsm)))
  have hI3 : h3.IsKeyIter S1.h.objs.size d 0 xs.size ep := atI.imp fun o q => ⟨k23 _ _ (k12 _ _ q.1), q.2⟩
  exact codeAny_compStart_dict (lp _ rfl) (wpAny_pyIter_keyiter (s := { S1.s with heap := h3, toks := S1.tk }) hI3 (lp _ rfl))
end
end Og
end

section
open PySem PySem.W PySem.Calls PyProof.Rows PySem.SeqAt
set_option Elab.async false
set_option linter.unusedVariables false
set_option genSizeOf false
set_option genInjectivity false
namespace Og

/-! the ledger is numbered anew: place i was js[i]; what is not named is forgotten -/
def backV (js : List Nat) (x : AV) : Option AV := AV.casesOn x (fun _ => some x) (fun _ => some x) (fun _ => some x) (fun _ _ => some x) (fun i => js[i]?.map .obj) (fun _ => some x)
abbrev RelE (js : List Nat) (e' e : Nat × AV) : Prop := e'.1 = e.1 ∧ backV js e'.2 = some e.2
def RelO (js : List Nat) (o' o : AObj) : Prop := AObj.casesOn o' (fun xs' => ∃ xs, o = .list xs ∧ Paired (fun x' x => backV js x' = some x) xs' xs) (fun es' => ∃ es, o = .sdict es ∧ Paired (RelE js) es' es) (fun _ _ => o = o')
  (fun es' => ∃ es, o = .attrs es ∧ Paired (RelE js) es' es) (fun C d' => ∃ d, o = .inst C d ∧ js[d']? = some d)
def RelS (js : List Nat) (x' x : Option AV) : Prop := ∀ a, x' = some a → ∃ b, x = some b ∧ backV js a = some b
def sRe (x : XS) : XS := fun loc led R K => x loc led R fun loc l => ∃ js loc' l', js.Nodup ∧ Paired (RelS js) loc' loc ∧ Paired (fun j o' => ∃ o, l[j]? = some o ∧ RelO js o' o) js l' ∧ K loc' l'
section
variable {c : Cf} {n : Nat} {cx : Ctx} {S : Sit c} {loc loc' : Loc} {env : Env} {h : Heap} {rs rs' : List Addr} {js : List Nat}
theorem Is.re (H : ∀ (i j : Nat), js[i]? = some j → ∀ a, rs[j]? = some a → rs'[i]? = some a) {x' x : AV} {v : Value} (b : backV js x' = some x) (i : Is c h rs x v) : Is c h rs' x' v := by
  cases x' with
  | obj k =>
    obtain ⟨j, e1, e2⟩ := Option.map_eq_some_iff.mp b
    subst e2
    exact i.imp fun a z => ⟨z.1, H k j e1 a z.2⟩
  | _ => cases b; exact i
theorem Paired.comp {α β γ : Type} {P : α → β → Prop} {R : β → γ → Prop} {T : α → γ → Prop} (f : ∀ x y z, P x y → R y z → T x z) {xs : List α} {ys : List β} (p : Paired P xs ys) : ∀ {zs : List γ}, Paired R ys zs → Paired T xs zs := by
  induction p with
  | nil => intro zs q; cases q; exact .nil
  | cons a _ ih => intro zs q; cases q with | cons b q => exact .cons (f _ _ _ a b) (ih q)
theorem Paired.at {α β : Type} {P : α → β → Prop} {xs : List α} {ys : List β} (p : Paired P xs ys) : ∀ {i : Nat} {y : β}, ys[i]? = some y → ∃ x, xs[i]? = some x ∧ P x y := by
  induction p with
  | nil => intro i y e; cases e
  | cons a _ ih =>
    intro i y e
    cases i with
    | zero => cases e; exact ⟨_, rfl, a⟩
    | succ i => exact ih e
theorem AttrsAre.re (H : ∀ (i j : Nat), js[i]? = some j → ∀ a, rs[j]? = some a → rs'[i]? = some a) {es' es : List (Nat × AV)} {m : Str → Option Value} (p : Paired (RelE js) es' es) (A : AttrsAre c h rs es m) : AttrsAre c h rs' es' m := by
  have same : ∀ (i : Nat) (e' e : Nat × AV), RelE js e' e → decide (e'.1 = i) = decide (e.1 = i) := fun i e' e z => by rw [z.1]
  refine ⟨fun i x e' hx q => ?_, fun i x hx q => A.miss i x hx ?_, A.within⟩
  · obtain ⟨e, e1, z⟩ := Paired.find p (same i) q
    exact (A.hit i x e hx e1).imp fun v w => ⟨w.1, Is.re H z.2 w.2⟩
  · have := Paired.any p (same i)
    rw [← find_any, ← find_any] at this
    unfold look at q ⊢
    rw [q] at this
    exact Option.isSome_eq_false_iff.mp this.symm |> Option.isNone_iff_eq_none.mp
theorem ObjIs.re (H : ∀ (i j : Nat), js[i]? = some j → ∀ a, rs[j]? = some a → rs'[i]? = some a) {o' o : AObj} {a : Addr} (r : RelO js o' o) (x : ObjIs c h rs o a) : ObjIs c h rs' o' a := by
  cases o' with
  | list xs' => obtain ⟨xs, rfl, p⟩ := r; obtain ⟨items, m, e, i⟩ := x; exact ⟨items, m, e, Paired.comp (R := Is c h rs) (T := Is c h rs') (fun _ _ _ b i => Is.re H b i) p i⟩
  | sdict es' => obtain ⟨es, rfl, p⟩ := r; obtain ⟨kvs, e, i⟩ := x; exact ⟨kvs, e, Paired.comp (fun _ _ _ b i => ⟨b.1 ▸ i.1, Is.re H b.2 i.2⟩) p i⟩
  | dict b es => cases r; exact x
  | attrs es' => obtain ⟨es, rfl, p⟩ := r; exact x.imp fun m z => ⟨z.1, AttrsAre.re H p z.2⟩
  | inst C d' => obtain ⟨d, rfl, e⟩ := r; exact x.imp fun da z => ⟨H _ _ e _ z.1, z.2⟩
theorem okS_re {t : Env → Sem Flow} {x : XS} (h : OkX c n cx true t x) : OkX c n cx true t (sRe x) := fun S loc env F A E Q R K hR e P' P => h S loc env F hR e P' fun S1 loc1 g F1 k => by
  obtain ⟨js, loc', l', hn, pl, pj, k⟩ := k
  have lt : ∀ j ∈ js, j < S1.rs.length := fun j m => by
    obtain ⟨i, e⟩ := List.mem_iff_getElem?.mp m
    have li : i < l'.length := pj.length ▸ (List.getElem?_eq_some_iff.mp e).1
    obtain ⟨j', e', o, eo, _⟩ := Paired.at pj (List.getElem?_eq_getElem li)
    cases e.symm.trans e'
    exact S1.rep.len ▸ (List.getElem?_eq_some_iff.mp eo).1
  have H : ∀ i j, js[i]? = some j → ∀ a, S1.rs[j]? = some a → (js.map (S1.rs.getD · 0))[i]? = some a := fun i j e a q => by
    rw [List.getElem?_map, e]; exact congrArg some (show S1.rs.getD j 0 = a by rw [List.getD_eq_getElem?_getD, q]; rfl)
  have sub : ∀ a ∈ js.map (S1.rs.getD · 0), a ∈ S1.rs := fun a m => by
    obtain ⟨j, mj, e⟩ := List.mem_map.mp m
    have e : S1.rs.getD j 0 = a := e
    rw [List.getD_eq_getElem?_getD, List.getElem?_eq_getElem (lt j mj)] at e
    exact e ▸ List.getElem_mem _
  have rep : Rep c (js.map (S1.rs.getD · 0)) l' S1.h := ⟨S1.rep.keep, (List.length_map ..).trans pj.length, fun i a ao e1 e2 => by
      obtain ⟨j, ej, o, eo, ro⟩ := Paired.at pj e2
      have q := H i j ej _ (List.getElem?_eq_getElem (lt j (List.mem_of_getElem? ej)))
      cases e1.symm.trans q
      exact ObjIs.re H ro (S1.rep.obj j _ o (List.getElem?_eq_getElem _) eo), by
    refine List.pairwise_map.mpr (hn.imp_of_mem fun {i j} mi mj ne z => ne ?_)
    have z : S1.rs.getD i 0 = S1.rs.getD j 0 := z
    rw [List.getD_eq_getElem?_getD, List.getD_eq_getElem?_getD, List.getElem?_eq_getElem (lt _ mi), List.getElem?_eq_getElem (lt _ mj)] at z
    exact (List.getElem_inj S1.rep.nodup).mp z, fun a m => S1.rep.new a (sub a m)⟩
  refine P ⟨_, l', S1.h, S1.tk, rep⟩ loc' ⟨⟨fun a m q => g.1.1 a (sub a m) q, g.1.2.1, g.1.2.2⟩, fun z => nomatch z⟩ ⟨F1.eo, fun b x m => F1.out b x (sub b m), F1.cells, ?_⟩ k
  obtain ⟨m, hm, hl⟩ := F1.ns
  refine ⟨m, hm, fun i y av a b => ?_⟩
  have li : i < loc1.length := pl.length ▸ (List.getElem?_eq_some_iff.mp b).1
  obtain ⟨x', e1, rl⟩ := Paired.at pl (List.getElem?_eq_getElem li)
  cases b.symm.trans e1
  obtain ⟨bv, e2, e3⟩ := rl av rfl
  obtain ⟨v, iv, hv⟩ := hl i y bv a ((List.getElem?_eq_getElem li).trans (congrArg some e2))
  exact ⟨v, Is.re H e3 iv, hv⟩
end
end Og
end

section
open PySem PySem.W PySem.Calls PyProof.Rows
set_option Elab.async false
set_option linter.unusedVariables false
set_option genSizeOf false
set_option genInjectivity false
set_option maxRecDepth 100000
namespace Og
def levs : List At := [.int 0, .int 95, .int 135, .int 175, .int 215, .int 255]
def sels : List UInt8 := [99, 112, 113, 115, 48, 49, 50, 51, 52, 53, 54, 55]
def keys : List (List At) := [[.str 0, .int 16], [.str 0, .int 196], [.str 0, .int 232], [.str 0, .int 255], [.str 1, .int 0], [.str 1, .int 4], [.str 2, .int 10], [.str 2, .int 11], [.str 2, .int 12], [.str 2, .int 14], [.str 2, .int 16], [.str 2, .int 17], [.str 2, .int 19]]
def rgbs : List At := [.int 0, .int 16777215, .int 66051, .int 8421504, .int 255]
def ids : List At := [.bytes [], .bytes [97], .bytes [97, 58, 98]]
def adrs : List At := [.bytes [104, 116, 116, 112, 58, 47, 47, 97], .bytes [102, 105, 108, 101, 58, 47, 47, 47, 98], .bytes [120]]
def d_rgb_number : XS := (sSeq (sRet (x2 (fI fun i j K => K (.int (Builtin.bitOr i j))) (x2 (fI fun i j K => K (.int (Builtin.bitOr i j))) (x2 (fI gShl) (xVar 0) (xConst (.at (.int 16)))) (x2 (fI gShl) (xVar 1) (xConst (.at (.int 8))))) (xVar 2))) sNil)
def f_rgb_number : FL := fDef 3 0 d_rgb_number

def d_palette_rgb : XS := (sSeq (sIf (tVal (x2 (fC fun i j => decide (i < j)) (xVar 0) (xConst (.at (.int 16))))) (sSeq (sRet xNo) sNil) sNil) (sSeq (sIf (tVal (x2 (fC fun i j => decide (i < j)) (xVar 0) (xConst (.at (.int 232))))) (sSeq (sSet 2 (x2 (fI fun i j K => K (.int (i - j))) (xVar 0) (xConst (.at (.int 16))))) (sSeq (sRet (xCall f_rgb_number (xlCons (x2 fItem (xConst (.tup levs)) (x2 (fI gDiv) (xVar 2) (xConst (.at (.int 36))))) (xlCons (x2 fItem (xConst (.tup levs)) (x2 (fI gMod) (x2 (fI gDiv) (xVar 2) (xConst (.at (.int 6)))) (xConst (.at (.int 6))))) (xlCons (x2 fItem (xConst (.tup levs)) (x2 (fI gMod) (xVar 2) (xConst (.at (.int 6))))) xlNil))))) sNil)) sNil) (sSeq (sSet 1 (x2 (fI fun i j K => K (.int (i + j))) (xConst (.at (.int 8))) (x2 (fI gMul) (xConst (.at (.int 10))) (x2 (fI fun i j K => K (.int (i - j))) (xVar 0) (xConst (.at (.int 232))))))) (sSeq (sRet (xCall f_rgb_number (xlCons (xVar 1) (xlCons (xVar 1) (xlCons (xVar 1) xlNil))))) sNil))))
def f_palette_rgb : FL := fDef 1 2 d_palette_rgb

def d_T_init : XS := (sSeq (sAttr (fSet 74 10) (xConst (.at (.bytes []))) (xVar 0)) (sSeq (sAttr (fSet 74 11) (xConst (.at (.bytes []))) (xVar 0)) (sSeq (sAttr (fSet 74 12) (xList xlNil) (xVar 0)) sNil)))
def f_T_init : FL := fDef 1 0 d_T_init

def m_T : FL := fMake 74 f_T_init

def d_T_put : XS := (sSeq (sIf (tVal (x2 (fC fun i j => i != j) (xVar 1) (xConst (.at (.int 2))))) (sSeq (sAttr (fSet 74 10) (xVar 2) (xVar 0)) sNil) sNil) (sSeq (sIf (tVal (x2 (fC fun i j => i != j) (xVar 1) (xConst (.at (.int 1))))) (sSeq (sAttr (fSet 74 11) (xVar 2) (xVar 0)) sNil) sNil) sNil))
def f_T_put : FL := fDef 3 0 d_T_put

def d_T_push : XS := (sSeq (sExpr (xM (mList (fl2 fAppend)) (x1 (fGet 74 12) (xVar 0)) (xlCons (xTup (xlCons (x1 (fGet 74 10) (xVar 0)) (xlCons (x1 (fGet 74 11) (xVar 0)) xlNil))) xlNil))) (sSeq (sIf (tVal (x2 (fC fun i j => decide (j < i)) (xCall (fl1 fLen) (xlCons (x1 (fGet 74 12) (xVar 0)) xlNil)) (xVar 1))) (sSeq (sExpr (xM (mList (fl2 fPop0)) (x1 (fGet 74 12) (xVar 0)) (xlCons (xConst (.at (.int 0))) xlNil))) sNil) sNil) sNil))
def f_T_push : FL := fDef 2 0 d_T_push

def d_T_pop : XS := (sSeq (sIf (tNil (x1 (fGet 74 12) (xVar 0))) (sSeq (sMany [2, 3] (xItems (xM (mList (fl1 fPop)) (x1 (fGet 74 12) (xVar 0)) xlNil))) (sSeq (sIf (tVal (x2 (fC fun i j => i != j) (xVar 1) (xConst (.at (.int 2))))) (sSeq (sAttr (fSet 74 10) (xVar 2) (xVar 0)) sNil) sNil) (sSeq (sIf (tVal (x2 (fC fun i j => i != j) (xVar 1) (xConst (.at (.int 1))))) (sSeq (sAttr (fSet 74 11) (xVar 3) (xVar 0)) sNil) sNil) sNil))) sNil) sNil)
def f_T_pop : FL := fDef 2 2 d_T_pop

def d_P_init : XS := (sSeq (sAttr (fSet 138 5) (xVar 1) (xVar 0)) (sSeq (sAttr (fSet 138 6) (xVar 2) (xVar 0)) (sSeq (sAttr (fSet 138 7) (xEmpty false) (xVar 0)) sNil)))
def f_P_init : FL := fDef 3 0 d_P_init

def m_P : FL := fMake 138 f_P_init

def d_P_first : XS := (sSeq (sIf (tVal (x2 (fEqS true) (x2 fItem (xVar 1) (xConst (.at (.int 0)))) (xConst (.at (.str 0))))) (sSeq (sRet (xCall f_palette_rgb (xlCons (x2 fItem (xVar 1) (xConst (.at (.int 1)))) xlNil))) sNil) sNil) (sSeq (sSet 2 (xAnd (x2 (fEqS true) (x2 fItem (xVar 1) (xConst (.at (.int 0)))) (xConst (.at (.str 2)))) (x2 fInT (x2 fItem (xVar 1) (xConst (.at (.int 1)))) (xTup (xlCons (xConst (.at (.int 11))) (xlCons (xConst (.at (.int 14))) (xlCons (xConst (.at (.int 16))) (xlCons (xConst (.at (.int 17))) xlNil)))))))) (sSeq (sRet (xIf (tVal (xVar 2)) (x1 (fGet 138 6) (xVar 0)) (x1 (fGet 138 5) (xVar 0)))) sNil)))
def f_P_first : FL := fDef 2 1 d_P_first

def d_P_rgb : XS := (sSeq (sRet (xIf (tVal (x2 (fInD true) (xVar 1) (x1 (fGet 138 7) (xVar 0)))) (x2 fItem (x1 (fGet 138 7) (xVar 0)) (xVar 1)) (xM (mInst 138 f_P_first) (xVar 0) (xlCons (xVar 1) xlNil)))) sNil)
def f_P_rgb : FL := fDef 2 0 d_P_rgb

def d_P_put : XS := (sSeq (sItem fPut (xVar 2) (x1 (fGet 138 7) (xVar 0)) (xVar 1)) (sSeq (sIf (tVal (x2 (fC fun i j => i == j) (xVar 2) (xM (mInst 138 f_P_first) (xVar 0) (xlCons (xVar 1) xlNil)))) (sSeq (sExpr (xM (mDict (fl2 fDPop)) (x1 (fGet 138 7) (xVar 0)) (xlCons (xVar 1) xlNil))) sNil) sNil) sNil))
def f_P_put : FL := fDef 3 0 d_P_put

def d_P_put_back : XS := (sSeq (sIf (tVal (x2 (fInD true) (xVar 1) (x1 (fGet 138 7) (xVar 0)))) (sSeq (sExpr (xM (mDict (fl2 fDPop)) (x1 (fGet 138 7) (xVar 0)) (xlCons (xVar 1) xlNil))) sNil) sNil) sNil)
def f_P_put_back : FL := fDef 2 0 d_P_put_back

def d_P_put_back_all : XS := (sSeq (sFor (xsL (xCall (fl1 fListD) (xlCons (x1 (fGet 138 7) (xVar 0)) xlNil))) (bd1 2) (sSeq (sIf (tVal (x2 (fEqS true) (x2 fItem (xVar 2) (xConst (.at (.int 0)))) (xVar 1))) (sSeq (sExpr (xM (mDict (fl2 fDPop)) (x1 (fGet 138 7) (xVar 0)) (xlCons (xVar 2) xlNil))) sNil) sNil) sNil)) sNil)
def f_P_put_back_all : FL := fDef 2 1 d_P_put_back_all

def d_P_colour_rgb : XS := (sSeq (sIf (tVal (x2 (fC fun i j => decide (j ≤ i)) (xVar 1) (xConst (.at (.int 16777216))))) (sSeq (sRet (x2 (fI fun i j K => K (.int (i - j))) (xVar 1) (xConst (.at (.int 16777216))))) sNil) sNil) (sSeq (sIf (tVal (x2 (fC fun i j => decide (j ≤ i)) (xVar 1) (xConst (.at (.int 0))))) (sSeq (sRet (xM (mInst 138 f_P_rgb) (xVar 0) (xlCons (xTup (xlCons (xConst (.at (.str 0))) (xlCons (xVar 1) xlNil))) xlNil))) sNil) sNil) (sSeq (sRet (xM (mInst 138 f_P_rgb) (xVar 0) (xlCons (xTup (xlCons (xConst (.at (.str 2))) (xlCons (xIf (tVal (xVar 2)) (xConst (.at (.int 10))) (x2 (fI fun i j K => K (.int (i + j))) (xConst (.at (.int 10))) (xConst (.at (.int 1))))) xlNil))) xlNil))) sNil)))
def f_P_colour_rgb : FL := fDef 3 0 d_P_colour_rgb

def d_L_init : XS := (sSeq (sAttr (fSet 180 8) (xList xlNil) (xVar 0)) (sSeq (sAttr (fSet 180 9) (xEmpty true) (xVar 0)) sNil))
def f_L_init : FL := fDef 1 0 d_L_init

def m_L : FL := fMake 180 f_L_init

def d_L_number_of_link : XS := (sSeq (sIf (tVal (x2 (fInD false) (xTup (xlCons (xVar 1) (xlCons (xVar 2) xlNil))) (x1 (fGet 180 9) (xVar 0)))) (sSeq (sIf (tVal (x2 (fC fun i j => decide (j ≤ i)) (xCall (fl1 fLen) (xlCons (x1 (fGet 180 8) (xVar 0)) xlNil)) (xVar 3))) (sSeq (sRet (xConst (.at (.int 0)))) sNil) sNil) (sSeq (sExpr (xM (mList (fl2 fAppend)) (x1 (fGet 180 8) (xVar 0)) (xlCons (xTup (xlCons (xVar 1) (xlCons (xVar 2) xlNil))) xlNil))) (sSeq (sItem fPut (xCall (fl1 fLen) (xlCons (x1 (fGet 180 8) (xVar 0)) xlNil)) (x1 (fGet 180 9) (xVar 0)) (xTup (xlCons (xVar 1) (xlCons (xVar 2) xlNil)))) sNil))) sNil) (sSeq (sRet (x2 fItem (x1 (fGet 180 9) (xVar 0)) (xTup (xlCons (xVar 1) (xlCons (xVar 2) xlNil))))) sNil))
def f_L_number_of_link : FL := fDef 4 0 d_L_number_of_link

def d_L_address : XS := (sSeq (sRet (xIf (tChain (fC fun i j => decide (i ≤ j)) (fC fun i j => decide (i ≤ j)) (xConst (.at (.int 1))) (xVar 1) (xCall (fl1 fLen) (xlCons (x1 (fGet 180 8) (xVar 0)) xlNil))) (x2 fItem (x2 fItem (x1 (fGet 180 8) (xVar 0)) (x2 (fI fun i j K => K (.int (i - j))) (xVar 1) (xConst (.at (.int 1))))) (xConst (.at (.int 1)))) (xConst (.at (.bytes []))))) sNil)
def f_L_address : FL := fDef 2 0 d_L_address

def d_L_word : XS := (sSeq (sRet (xIf (tChain (fC fun i j => decide (i ≤ j)) (fC fun i j => decide (i ≤ j)) (xConst (.at (.int 1))) (xVar 1) (xCall (fl1 fLen) (xlCons (x1 (fGet 180 8) (xVar 0)) xlNil))) (x2 fItem (x2 fItem (x1 (fGet 180 8) (xVar 0)) (x2 (fI fun i j K => K (.int (i - j))) (xVar 1) (xConst (.at (.int 1))))) (xConst (.at (.int 0)))) (xConst (.at (.bytes []))))) sNil)
def f_L_word : FL := fDef 2 0 d_L_word

def d_osc_palette_key : XS := (sSeq (sIf (tVal (x2 fIsNone (xVar 0) (xConst (.at .none)))) (sSeq (sRet (xConst (.at .none))) sNil) sNil) (sSeq (sIf (tVal (xVar 1)) (sSeq (sRet (xIf (tVal (x2 (fC fun i j => decide (i < j)) (xVar 0) (xConst (.at (.int 5))))) (xTup (xlCons (xConst (.at (.str 1))) (xlCons (xVar 0) xlNil))) (xConst (.at .none)))) sNil) sNil) (sSeq (sIf (tVal (x2 (fC fun i j => decide (i < j)) (xVar 0) (xConst (.at (.int 256))))) (sSeq (sRet (xTup (xlCons (xConst (.at (.str 0))) (xlCons (xVar 0) xlNil)))) sNil) sNil) (sSeq (sRet (xIf (tVal (x2 (fC fun i j => decide (i < j)) (xVar 0) (x2 (fI fun i j K => K (.int (i + j))) (xConst (.at (.int 256))) (xConst (.at (.int 5)))))) (xTup (xlCons (xConst (.at (.str 1))) (xlCons (x2 (fI fun i j K => K (.int (i - j))) (xVar 0) (xConst (.at (.int 256)))) xlNil))) (xConst (.at .none)))) sNil))))
def f_osc_palette_key : FL := fDef 2 0 d_osc_palette_key

def d_osc_selections : XS := (sSeq (sSet 1 (xList xlNil)) (sSeq (sFor (xsY (xIf (tVal (x2 fNeY (xVar 0) (xConst (.at (.bytes []))))) (xVar 0) (xConst (.at (.bytes [115, 48]))))) (bd1 2) (sSeq (sIf (tAnd (tVal (x2 fInY (xVar 2) (xConst (.at (.bytes sels))))) (tVal (x2 (fInL false) (xBytes (xlCons (xVar 2) xlNil)) (xVar 1)))) (sSeq (sExpr (xM (mList (fl2 fAppend)) (xVar 1) (xlCons (xBytes (xlCons (xVar 2) xlNil)) xlNil))) sNil) sNil) sNil)) (sSeq (sRet (xVar 1)) sNil)))
def f_osc_selections : FL := fDef 1 2 d_osc_selections

def d_law_deck : XS := (sSeq (sSwap [2, 3] (xDisp (xlCons (xLC (xsL (x1 (fSlice none (some 60) none) (xVar 0))) [] (x2 (fI gMod) (xCall (fl1 (f1I id)) (xlCons (xVar 0) xlNil)) (x2 (fI gPow) (xConst (.at (.int 10))) (xConst (.at (.int 9)))))) (xlCons (xConst (.at (.int 102))) xlNil)))) (sSeq (sFor (xsL (xVar 2)) (bd1 1) (sSeq (sSet 3 (x2 (fI gMod) (x2 (fI fun i j K => K (.int (i + j))) (x2 (fI gMul) (xVar 3) (xConst (.at (.int 31)))) (xVar 1)) (xConst (.at (.int 1000003))))) sNil)) (sSeq (sRet (xDict [3, 4] (xlCons (x1 (fSlice none none (some (-1))) (xVar 2)) (xlCons (xVar 3) xlNil)))) sNil)))
def f_law_deck : FL := fDef 1 3 d_law_deck

def d_law_draw : XS := (sSeq (sIf (tNil (x2 fItem (xVar 0) (xConst (.at (.str 3))))) (sSeq (sRet (x2 (fI gMod) (xM (mList (fl1 fPop)) (x2 fItem (xVar 0) (xConst (.at (.str 3)))) xlNil) (xVar 1))) sNil) sNil) (sSeq (sItem fPut (x2 (fI gMod) (x2 (fI fun i j K => K (.int (i + j))) (x2 (fI gMul) (x2 fItem (xVar 0) (xConst (.at (.str 4)))) (xConst (.at (.int 16807)))) (xConst (.at (.int 29)))) (xConst (.at (.int 2147483647)))) (xVar 0) (xConst (.at (.str 4)))) (sSeq (sRet (x2 (fI gMod) (x2 (fI gDiv) (x2 fItem (xVar 0) (xConst (.at (.str 4)))) (xConst (.at (.int 64)))) (xVar 1))) sNil)))
def f_law_draw : FL := fDef 2 0 d_law_draw

def d_law_cube : XS := (sSeq (sIf (tVal (x2 (fC fun i j => decide (j < i)) (xVar 0) (xConst (.at (.int 231))))) (sSeq (sRet (x2 (fI gMul) (x2 (fI fun i j K => K (.int (i + j))) (xConst (.at (.int 8))) (x2 (fI gMul) (xConst (.at (.int 10))) (x2 (fI fun i j K => K (.int (i - j))) (xVar 0) (xConst (.at (.int 232)))))) (xConst (.at (.int 65793))))) sNil) sNil) (sSeq (sSwap [1, 2] (xDisp (xlCons (xTup (xlCons (xConst (.at (.int 0))) (xlCons (xConst (.at (.int 95))) (xlCons (xConst (.at (.int 135))) (xlCons (xConst (.at (.int 175))) (xlCons (xConst (.at (.int 215))) (xlCons (xConst (.at (.int 255))) xlNil))))))) (xlCons (x2 (fI fun i j K => K (.int (i - j))) (xVar 0) (xConst (.at (.int 16)))) xlNil)))) (sSeq (sRet (x2 (fI fun i j K => K (.int (i + j))) (x2 (fI fun i j K => K (.int (i + j))) (x2 (fI gMul) (x2 fItem (xVar 1) (x2 (fI gDiv) (xVar 2) (xConst (.at (.int 36))))) (xConst (.at (.int 65536)))) (x2 (fI gMul) (x2 fItem (xVar 1) (x2 (fI gMod) (x2 (fI gDiv) (xVar 2) (xConst (.at (.int 6)))) (xConst (.at (.int 6))))) (xConst (.at (.int 256))))) (x2 fItem (xVar 1) (x2 (fI gMod) (xVar 2) (xConst (.at (.int 6))))))) sNil)))
def f_law_cube : FL := fDef 1 2 d_law_cube

def d_law_first : XS := (sSeq (sIf (tVal (x2 (fEqS true) (x2 fItem (xVar 1) (xConst (.at (.int 0)))) (xConst (.at (.str 0))))) (sSeq (sRet (xCall f_law_cube (xlCons (x2 fItem (xVar 1) (xConst (.at (.int 1)))) xlNil))) sNil) sNil) (sSeq (sRet (xIf (tAnd (tVal (x2 (fEqS true) (x2 fItem (xVar 1) (xConst (.at (.int 0)))) (xConst (.at (.str 2))))) (tVal (x2 fInT (x2 fItem (xVar 1) (xConst (.at (.int 1)))) (xTup (xlCons (xConst (.at (.int 11))) (xlCons (xConst (.at (.int 14))) (xlCons (xConst (.at (.int 16))) (xlCons (xConst (.at (.int 17))) xlNil)))))))) (x2 fItem (xVar 0) (xConst (.at (.str 6)))) (x2 fItem (xVar 0) (xConst (.at (.str 5)))))) sNil))
def f_law_first : FL := fDef 2 0 d_law_first

def d_law_coloured : XS := (sSeq (sSet 4 (x2 fItem (xConst (.tab keys)) (xCall f_law_draw (xlCons (xVar 0) (xlCons (xCall (fl1 fLen) (xlCons (xConst (.tab keys)) xlNil)) xlNil))))) (sSeq (sIf (tVal (x2 (fC fun i j => decide (i < j)) (xVar 3) (xConst (.at (.int 3))))) (sSeq (sSet 5 (x2 fItem (xConst (.tup rgbs)) (xCall f_law_draw (xlCons (xVar 0) (xlCons (xCall (fl1 fLen) (xlCons (xConst (.tup rgbs)) xlNil)) xlNil))))) sNil) (sSeq (sIf (tVal (x2 (fC fun i j => i == j) (xVar 3) (xConst (.at (.int 5))))) (sSeq (sSet 5 (xCall f_law_first (xlCons (xVar 2) (xlCons (xVar 4) xlNil)))) sNil) (sSeq (sSet 5 (xConst (.at .none))) sNil)) sNil)) (sSeq (sIf (tVal (x2 (fC fun i j => i == j) (xVar 3) (xConst (.at (.int 3))))) (sSeq (sExpr (xM (mInst 138 f_P_put_back) (xVar 1) (xlCons (xVar 4) xlNil))) (sSeq (sItem fPut (xDC (x2 fItem (xVar 2) (xConst (.at (.str 13)))) [2, 4] (tVal (x2 fNeT (xVar 0) (xVar 2))) (x2 fItem (x2 fItem (xVar 1) (xConst (.at (.str 13)))) (xVar 0))) (xVar 2) (xConst (.at (.str 13)))) sNil)) (sSeq (sIf (tVal (x2 (fC fun i j => i == j) (xVar 3) (xConst (.at (.int 4))))) (sSeq (sExpr (xM (mInst 138 f_P_put_back_all) (xVar 1) (xlCons (x2 fItem (xVar 4) (xConst (.at (.int 0)))) xlNil))) (sSeq (sItem fPut (xDC (x2 fItem (xVar 2) (xConst (.at (.str 13)))) [2, 4] (tVal (x2 (fEqS false) (x2 fItem (xVar 0) (xConst (.at (.int 0)))) (x2 fItem (xVar 2) (xConst (.at (.int 0)))))) (x2 fItem (x2 fItem (xVar 1) (xConst (.at (.str 13)))) (xVar 0))) (xVar 2) (xConst (.at (.str 13)))) sNil)) (sSeq (sExpr (xM (mInst 138 f_P_put) (xVar 1) (xlCons (xVar 4) (xlCons (xVar 5) xlNil)))) (sSeq (sItem fPut (xDC (x2 fItem (xVar 2) (xConst (.at (.str 13)))) [2, 4] (tVal (x2 fNeT (xVar 0) (xVar 2))) (x2 fItem (x2 fItem (xVar 1) (xConst (.at (.str 13)))) (xVar 0))) (xVar 2) (xConst (.at (.str 13)))) (sSeq (sIf (tVal (x2 (fC fun i j => i != j) (xVar 5) (xCall f_law_first (xlCons (xVar 2) (xlCons (xVar 4) xlNil))))) (sSeq (sItem fPut (xVar 5) (x2 fItem (xVar 2) (xConst (.at (.str 13)))) (xVar 4)) sNil) sNil) sNil)))) sNil)) sNil)))
def f_law_coloured : FL := fDef 4 2 d_law_coloured

def d_law_palette_right : XS := (sSeq (sIf (tVal (x2 fNeD (x1 (fGet 138 7) (xVar 0)) (x2 fItem (xVar 1) (xConst (.at (.str 13)))))) (sSeq (sRet (xConst (.at (.bool false)))) sNil) sNil) (sSeq (sFor (xsT (xConst (.tab keys))) (bd1 2) (sSeq (sSet 4 (xIf (tVal (x2 (fInD true) (xVar 2) (x2 fItem (xVar 1) (xConst (.at (.str 13)))))) (x2 fItem (x2 fItem (xVar 1) (xConst (.at (.str 13)))) (xVar 2)) (xCall f_law_first (xlCons (xVar 1) (xlCons (xVar 2) xlNil))))) (sSeq (sIf (tOr (tVal (x2 (fC fun i j => i != j) (xM (mInst 138 f_P_rgb) (xVar 0) (xlCons (xVar 2) xlNil)) (xVar 4))) (tVal (x2 (fC fun i j => i != j) (xM (mInst 138 f_P_first) (xVar 0) (xlCons (xVar 2) xlNil)) (xCall f_law_first (xlCons (xVar 1) (xlCons (xVar 2) xlNil)))))) (sSeq (sRet (xConst (.at (.bool false)))) sNil) sNil) sNil))) (sSeq (sSet 3 (xList (xlCons (xM (mInst 138 f_P_colour_rgb) (xVar 0) (xlCons (xConst (.at (.int (-1)))) (xlCons (xConst (.at (.bool true))) xlNil))) (xlCons (xM (mInst 138 f_P_colour_rgb) (xVar 0) (xlCons (xConst (.at (.int (-1)))) (xlCons (xConst (.at (.bool false))) xlNil))) (xlCons (xM (mInst 138 f_P_colour_rgb) (xVar 0) (xlCons (xConst (.at (.int 196))) (xlCons (xConst (.at (.bool true))) xlNil))) xlNil))))) (sSeq (sExpr (xM (mList (fl2 fAppend)) (xVar 3) (xlCons (xM (mInst 138 f_P_colour_rgb) (xVar 0) (xlCons (x2 (fI fun i j K => K (.int (i + j))) (xConst (.at (.int 16777216))) (xConst (.at (.int 658188)))) (xlCons (xConst (.at (.bool false))) xlNil))) xlNil))) (sSeq (sSet 4 (xList (xlCons (xM (mInst 138 f_P_rgb) (xVar 0) (xlCons (xTup (xlCons (xConst (.at (.str 2))) (xlCons (xConst (.at (.int 10))) xlNil))) xlNil)) (xlCons (xM (mInst 138 f_P_rgb) (xVar 0) (xlCons (xTup (xlCons (xConst (.at (.str 2))) (xlCons (xConst (.at (.int 11))) xlNil))) xlNil)) (xlCons (xM (mInst 138 f_P_rgb) (xVar 0) (xlCons (xTup (xlCons (xConst (.at (.str 0))) (xlCons (xConst (.at (.int 196))) xlNil))) xlNil)) (xlCons (xConst (.at (.int 658188))) xlNil)))))) (sSeq (sRet (x2 fEqL (xVar 3) (xVar 4))) sNil))))))
def f_law_palette_right : FL := fDef 2 3 d_law_palette_right

def d_law_link_right : XS := (sSeq (sSet 3 (xTup (xlCons (x2 fItem (xConst (.tup ids)) (xCall f_law_draw (xlCons (xVar 0) (xlCons (xConst (.at (.int 3))) xlNil)))) (xlCons (x2 fItem (xConst (.tup adrs)) (xCall f_law_draw (xlCons (xVar 0) (xlCons (xConst (.at (.int 3))) xlNil)))) xlNil)))) (sSeq (sIf (tAnd (tVal (x2 (fInL false) (xVar 3) (x2 fItem (xVar 2) (xConst (.at (.str 14)))))) (tVal (x2 (fC fun i j => decide (i < j)) (xCall (fl1 fLen) (xlCons (x2 fItem (xVar 2) (xConst (.at (.str 14)))) xlNil)) (xConst (.at (.int 3)))))) (sSeq (sExpr (xM (mList (fl2 fAppend)) (x2 fItem (xVar 2) (xConst (.at (.str 14)))) (xlCons (xVar 3) xlNil))) sNil) sNil) (sSeq (sSet 4 (xIf (tVal (x2 (fInL true) (xVar 3) (x2 fItem (xVar 2) (xConst (.at (.str 14)))))) (x2 (fI fun i j K => K (.int (i + j))) (xM (mList (fl2 fIndex)) (x2 fItem (xVar 2) (xConst (.at (.str 14)))) (xlCons (xVar 3) xlNil)) (xConst (.at (.int 1)))) (xConst (.at (.int 0))))) (sSeq (sIf (tVal (x2 (fC fun i j => i != j) (xM (mInst 180 f_L_number_of_link) (xVar 1) (xlCons (x2 fItem (xVar 3) (xConst (.at (.int 0)))) (xlCons (x2 fItem (xVar 3) (xConst (.at (.int 1)))) (xlCons (xConst (.at (.int 3))) xlNil)))) (xVar 4))) (sSeq (sRet (xConst (.at (.bool false)))) sNil) sNil) (sSeq (sFor (xsE (x2 fAddL (x2 fAddL (xList (xlCons (xTup (xlCons (xConst (.at (.bytes []))) (xlCons (xConst (.at (.bytes []))) xlNil))) xlNil)) (x2 fItem (xVar 2) (xConst (.at (.str 14))))) (xList (xlCons (xTup (xlCons (xConst (.at (.bytes []))) (xlCons (xConst (.at (.bytes []))) xlNil))) xlNil)))) (bd2 5 6) (sSeq (sIf (tVal (x2 fNeT (xTup (xlCons (xM (mInst 180 f_L_word) (xVar 1) (xlCons (xVar 5) xlNil)) (xlCons (xM (mInst 180 f_L_address) (xVar 1) (xlCons (xVar 5) xlNil)) xlNil))) (xVar 6))) (sSeq (sRet (xConst (.at (.bool false)))) sNil) sNil) sNil)) (sSeq (sRet (xConst (.at (.bool true)))) sNil))))))
def f_law_link_right : FL := fDef 3 4 d_law_link_right

def d_law_titled : XS := (sSeq (sSet 4 (xCall f_law_draw (xlCons (xVar 0) (xlCons (xConst (.at (.int 3))) xlNil)))) (sSeq (sIf (tVal (x2 (fC fun i j => i == j) (xVar 3) (xConst (.at (.int 8))))) (sSeq (sSet 5 (x2 fItem (xTup (xlCons (xConst (.at (.bytes [111, 110, 101]))) (xlCons (xConst (.at (.bytes []))) (xlCons (xConst (.at (.bytes [116, 119, 111]))) xlNil)))) (xCall f_law_draw (xlCons (xVar 0) (xlCons (xConst (.at (.int 3))) xlNil))))) (sSeq (sExpr (xM (mInst 74 f_T_put) (xVar 1) (xlCons (xVar 4) (xlCons (xVar 5) xlNil)))) (sSeq (sSet 6 (xTup (xlCons (xVar 5) (xlCons (xVar 5) xlNil)))) sNil))) (sSeq (sIf (tVal (x2 (fC fun i j => i == j) (xVar 3) (xConst (.at (.int 9))))) (sSeq (sExpr (xM (mInst 74 f_T_push) (xVar 1) (xlCons (xConst (.at (.int 2))) xlNil))) (sSeq (sItem fPut (x1 (fSlice (some (-2)) none none) (x2 fAddL (x2 fItem (xVar 2) (xConst (.at (.str 16)))) (xList (xlCons (x2 fItem (xVar 2) (xConst (.at (.str 15)))) xlNil)))) (xVar 2) (xConst (.at (.str 16)))) (sSeq (sSet 6 (x2 fItem (xVar 2) (xConst (.at (.str 15))))) sNil))) (sSeq (sExpr (xM (mInst 74 f_T_pop) (xVar 1) (xlCons (xVar 4) xlNil))) (sSeq (sSet 6 (xIf (tNil (x2 fItem (xVar 2) (xConst (.at (.str 16))))) (x2 fItem (x2 fItem (xVar 2) (xConst (.at (.str 16)))) (xConst (.at (.int (-1))))) (x2 fItem (xVar 2) (xConst (.at (.str 15)))))) (sSeq (sItem fPut (x1 (fSlice none (some (-1)) none) (x2 fItem (xVar 2) (xConst (.at (.str 16))))) (xVar 2) (xConst (.at (.str 16)))) sNil)))) sNil)) (sSeq (sIf (tVal (x2 (fC fun i j => i != j) (xVar 3) (xConst (.at (.int 9))))) (sSeq (sSet 7 (x2 fItem (xVar 2) (xConst (.at (.str 15))))) (sSeq (sSet 6 (xTup (xlCons (xIf (tVal (x2 (fC fun i j => decide (i < j)) (xVar 4) (xConst (.at (.int 2))))) (x2 fItem (xVar 6) (xConst (.at (.int 0)))) (x2 fItem (xVar 7) (xConst (.at (.int 0))))) (xlCons (xIf (tVal (x2 (fC fun i j => i != j) (xVar 4) (xConst (.at (.int 1))))) (x2 fItem (xVar 6) (xConst (.at (.int 1)))) (x2 fItem (xVar 7) (xConst (.at (.int 1))))) xlNil)))) sNil)) sNil) (sSeq (sItem fPut (xVar 6) (xVar 2) (xConst (.at (.str 15)))) sNil))))
def f_law_titled : FL := fDef 4 4 d_law_titled

def d_law_keys_right : XS := (sSeq (sSet 1 (x2 fItem (xTup (xlCons (xConst (.at (.int 0))) (xlCons (xConst (.at (.int 16))) (xlCons (xConst (.at (.int 255))) (xlCons (xConst (.at (.int 256))) (xlCons (xConst (.at (.int 260))) (xlCons (xConst (.at (.int 261))) (xlCons (xConst (.at (.int 4))) (xlCons (xConst (.at (.int 5))) (xlCons (xConst (.at (.int 999))) xlNil)))))))))) (xCall f_law_draw (xlCons (xVar 0) (xlCons (xConst (.at (.int 9))) xlNil))))) (sSeq (sSet 2 (xIf (tVal (x2 (fC fun i j => decide (i < j)) (xVar 1) (xConst (.at (.int 256))))) (xTup (xlCons (xConst (.at (.str 0))) (xlCons (xVar 1) xlNil))) (xIf (tVal (x2 (fC fun i j => decide (i < j)) (xVar 1) (xConst (.at (.int 261))))) (xTup (xlCons (xConst (.at (.str 1))) (xlCons (x2 (fI fun i j K => K (.int (i - j))) (xVar 1) (xConst (.at (.int 256)))) xlNil))) (xConst (.at .none))))) (sSeq (sSet 3 (xList (xlCons (xCall f_osc_palette_key (xlCons (xVar 1) (xlCons (xConst (.at (.bool false))) xlNil))) (xlCons (xCall f_osc_palette_key (xlCons (xConst (.at .none)) (xlCons (xConst (.at (.bool false))) xlNil))) (xlCons (xCall f_osc_palette_key (xlCons (xConst (.at .none)) (xlCons (xConst (.at (.bool true))) xlNil))) xlNil))))) (sSeq (sIf (tReprNe (xVar 3) (xList (xlCons (xVar 2) (xlCons (xConst (.at .none)) (xlCons (xConst (.at .none)) xlNil))))) (sSeq (sRet (xConst (.at (.bool false)))) sNil) sNil) (sSeq (sIf (tReprNe (xCall f_osc_palette_key (xlCons (xVar 1) (xlCons (xConst (.at (.bool true))) xlNil))) (xIf (tVal (x2 (fC fun i j => decide (i < j)) (xVar 1) (xConst (.at (.int 5))))) (xTup (xlCons (xConst (.at (.str 1))) (xlCons (xVar 1) xlNil))) (xConst (.at .none)))) (sSeq (sRet (xConst (.at (.bool false)))) sNil) sNil) (sSeq (sSet 4 (xCall (fl1 fBytes) (xlCons (xLC (xsR (xCall f_law_draw (xlCons (xVar 0) (xlCons (xConst (.at (.int 5))) xlNil)))) [0] (x2 fItem (xConst (.at (.bytes [99, 112, 113, 115, 48, 55, 120, 57, 99]))) (xCall f_law_draw (xlCons (xVar 1) (xlCons (xConst (.at (.int 9))) xlNil))))) xlNil))) (sSeq (sSet 4 (xIf (tVal (x2 fNeY (xVar 4) (xConst (.at (.bytes []))))) (x2 fAddY (xVar 4) (xConst (.at (.bytes [112])))) (xVar 4))) (sSeq (sSet 2 (xList xlNil)) (sSeq (sFor (xsY (xIf (tVal (x2 fNeY (xVar 4) (xConst (.at (.bytes []))))) (xVar 4) (xConst (.at (.bytes [115, 48]))))) (bd1 5) (sSeq (sIf (tAnd (tVal (x2 fInY (xVar 5) (xConst (.at (.bytes [99, 112, 113, 115, 48, 49, 50, 51, 52, 53, 54, 55]))))) (tVal (x2 (fInL false) (xBytes (xlCons (xVar 5) xlNil)) (xVar 2)))) (sSeq (sExpr (xM (mList (fl2 fAppend)) (xVar 2) (xlCons (xBytes (xlCons (xVar 5) xlNil)) xlNil))) sNil) sNil) sNil)) (sSeq (sRet (x2 fEqL (xCall (fl1 fList) (xlCons (xCall f_osc_selections (xlCons (xVar 4) xlNil)) xlNil)) (xVar 2))) sNil))))))))))
def f_law_keys_right : FL := fDef 1 5 d_law_keys_right

def d_law : XS := (sSeq (sRe (sSet 1 (xCall f_law_deck (xlCons (xVar 0) xlNil)))) (sSeq (sMany [4, 5, 6, 7] (xDisp (xlCons (x2 (fI fun i j K => K (.int (i + j))) (xConst (.at (.int 1))) (xCall f_law_draw (xlCons (xVar 1) (xlCons (xConst (.at (.int 14))) xlNil)))) (xlCons (xCall m_P (xlCons (xConst (.at (.int 1122867))) (xlCons (xConst (.at (.int 4478310))) xlNil))) (xlCons (xCall m_L xlNil) (xlCons (xCall m_T xlNil) xlNil)))))) (sSeq (sSet 2 (xDict [5, 6, 13, 14, 15, 16] (xlCons (xConst (.at (.int 1122867))) (xlCons (xConst (.at (.int 4478310))) (xlCons (xEmpty false) (xlCons (xList xlNil) (xlCons (xTup (xlCons (xConst (.at (.bytes [116]))) (xlCons (xConst (.at (.bytes [116]))) xlNil))) (xlCons (xList xlNil) xlNil)))))))) (sSeq (sExpr (xM (mInst 74 f_T_put) (xVar 7) (xlCons (xConst (.at (.int 0))) (xlCons (xConst (.at (.bytes [116]))) xlNil)))) (sSeq (sFor (xsR (xVar 4)) (bd1 3) (sRe (sSeq (sSet 8 (xCall f_law_draw (xlCons (xVar 1) (xlCons (xConst (.at (.int 12))) xlNil)))) (sSeq (sRe (sIf (tVal (x2 (fC fun i j => decide (i < j)) (xVar 8) (xConst (.at (.int 6))))) (sSeq (sExpr (xCall f_law_coloured (xlCons (xVar 1) (xlCons (xVar 5) (xlCons (xVar 2) (xlCons (xVar 8) xlNil)))))) sNil) (sSeq (sIf (tAnd (tVal (x2 (fC fun i j => decide (j < i)) (xVar 8) (xConst (.at (.int 7))))) (tVal (x2 (fC fun i j => decide (i < j)) (xVar 8) (xConst (.at (.int 11)))))) (sSeq (sExpr (xCall f_law_titled (xlCons (xVar 1) (xlCons (xVar 7) (xlCons (xVar 2) (xlCons (xVar 8) xlNil)))))) sNil) (sSeq (sIf (tVal (x2 (fC fun i j => i == j) (xVar 8) (xConst (.at (.int 11))))) (sSeq (sIf (tNot (tVal (xCall f_law_keys_right (xlCons (xVar 1) xlNil)))) (sSeq (sRet (xConst (.at (.bool false)))) sNil) sNil) sNil) (sSeq (sIf (tNot (tVal (xCall f_law_link_right (xlCons (xVar 1) (xlCons (xVar 6) (xlCons (xVar 2) xlNil)))))) (sSeq (sRet (xConst (.at (.bool false)))) sNil) sNil) sNil)) sNil)) sNil))) (sSeq (sIf (tOr (tNot (tVal (xCall f_law_palette_right (xlCons (xVar 5) (xlCons (xVar 2) xlNil))))) (tVal (x2 fNeT (xTup (xlCons (x1 (fGet 74 10) (xVar 7)) (xlCons (x1 (fGet 74 11) (xVar 7)) xlNil))) (x2 fItem (xVar 2) (xConst (.at (.str 15))))))) (sSeq (sRet (xConst (.at (.bool false)))) sNil) sNil) sNil))))) (sSeq (sFor (xsR (xConst (.at (.int 3)))) (bd1 3) (sRe (sSeq (sExpr (xM (mInst 74 f_T_pop) (xVar 7) (xlCons (xConst (.at (.int 0))) xlNil))) (sSeq (sItem fPut (xIf (tNil (x2 fItem (xVar 2) (xConst (.at (.str 16))))) (xM (mList (fl1 fPop)) (x2 fItem (xVar 2) (xConst (.at (.str 16)))) xlNil) (x2 fItem (xVar 2) (xConst (.at (.str 15))))) (xVar 2) (xConst (.at (.str 15)))) (sSeq (sIf (tVal (x2 fNeT (xTup (xlCons (x1 (fGet 74 10) (xVar 7)) (xlCons (x1 (fGet 74 11) (xVar 7)) xlNil))) (x2 fItem (xVar 2) (xConst (.at (.str 15)))))) (sSeq (sRet (xConst (.at (.bool false)))) sNil) sNil) sNil))))) (sSeq (sRet (xCall f_law_keys_right (xlCons (xVar 1) xlNil))) sNil)))))))
def f_law : FL := fDef 1 8 d_law
end Og
end

section
open PySem PySem.W PySem.Calls PyProof.Rows
set_option Elab.async false
set_option linter.unusedVariables false
set_option genSizeOf false
set_option genInjectivity false
namespace Og
local macro_rules | `(tactic| walk_at "sd") => `(tactic| first | rfl | exact Nat.le_of_ble_eq_true rfl | exact ⟨false, rfl⟩ | exact ⟨true, rfl⟩ | exact ⟨false, rfl, rfl⟩ | exact ⟨true, rfl, rfl⟩ | decide | assumption | exact Or.inr (by decide) | exact Or.inl (by decide) | omega | (refine And.intro ?_ ?_ <;> walk_at "sd"))
local macro_rules | `(tactic| walk_at "ev") => `(tactic| (conv => whnf); repeat (refine And.intro (by walk_at "sd") ?_; conv => whnf))
def Lg (cs : List Int) (m : Int) (es : List kvP) (rows : List (List At)) (kn : List kvP) (ic wi : List UInt8) (st : List (List At)) (ts : List kvP) (wl : List (List At)) (ti : List At) (as : List (List At)) (g : Led) : Led :=
  [.sdict [(3, .obj 1), (4, .at (.int m))], .list (cs.map fun z => .at (.int z)),
   .attrs [(5, .at (.int 1122867)), (6, .at (.int 4478310)), (7, .obj 4)], .inst 138 2, .dict false es,
   .attrs [(8, .obj 7), (9, .obj 8)], .inst 180 5, .list (rows.map .tup), .dict true kn,
   .attrs [(10, .at (.bytes ic)), (11, .at (.bytes wi)), (12, .obj 11)], .inst 74 9, .list (st.map .tup),
   .sdict [(5, .at (.int 1122867)), (6, .at (.int 4478310)), (13, .obj 13), (14, .obj 14), (15, .tup ti), (16, .obj 15)], .dict false ts, .list (wl.map .tup), .list (as.map .tup)] ++ g
section
variable {cs : List Int} {m : Int} {es : List kvP} {rows : List (List At)} {kn : List kvP} {ic wi : List UInt8} {st : List (List At)} {ts : List kvP} {wl : List (List At)} {ti : List At} {as : List (List At)} {g : Led} {K : KV}
theorem T_put0 {b : List UInt8} (h : K (.at .none) (Lg cs m es rows kn b b st ts wl ti as g)) : f_T_put [.obj 10, .at (.int 0), .at (.bytes b)] (Lg cs m es rows kn ic wi st ts wl ti as g) K := by walk_at "ev"; exact h
theorem T_put1 {b : List UInt8} (h : K (.at .none) (Lg cs m es rows kn b wi st ts wl ti as g)) : f_T_put [.obj 10, .at (.int 1), .at (.bytes b)] (Lg cs m es rows kn ic wi st ts wl ti as g) K := by walk_at "ev"; exact h
theorem T_put2 {b : List UInt8} (h : K (.at .none) (Lg cs m es rows kn ic b st ts wl ti as g)) : f_T_put [.obj 10, .at (.int 2), .at (.bytes b)] (Lg cs m es rows kn ic wi st ts wl ti as g) K := by walk_at "ev"; exact h
def fvals : List Int := [0, 16711680, 526344, 15658734, 1122867, 1122867, 1122867, 4478310, 1122867, 4478310, 4478310, 4478310, 1122867]
def frst (k : List At) : Int := ((keys.zip fvals).find? fun e => decide (e.1 = k)).elim 0 (·.2)
theorem key_cases {p : List At → Prop} {k : List At} (hk : k ∈ keys) (h : keys.foldr (fun k r => p k ∧ r) True) : p k := by
  revert h
  revert hk
  generalize keys = ks
  intro hk h
  induction ks with
  | nil => cases hk
  | cons x r ih => exact (List.mem_cons.mp hk).elim (fun e => e ▸ h.1) fun m => ih m h.2
theorem P_first {k : List At} (hk : k ∈ keys) (h : K (.at (.int (frst k))) (Lg cs m es rows kn ic wi st ts wl ti as g)) : f_P_first [.obj 3, .tup k] (Lg cs m es rows kn ic wi st ts wl ti as g) K := by
  revert h
  refine key_cases (p := fun k => K (.at (.int (frst k))) (Lg cs m es rows kn ic wi st ts wl ti as g) → f_P_first [.obj 3, .tup k] (Lg cs m es rows kn ic wi st ts wl ti as g) K) hk ?_
  refine ⟨fun h => ?_, fun h => ?_, fun h => ?_, fun h => ?_, fun h => ?_, fun h => ?_, fun h => ?_, fun h => ?_, fun h => ?_, fun h => ?_, fun h => ?_, fun h => ?_, fun h => ?_, trivial⟩ <;> (walk_at "ev"; exact h)
theorem L_first {k : List At} (hk : k ∈ keys) (h : K (.at (.int (frst k))) (Lg cs m es rows kn ic wi st ts wl ti as g)) : f_law_first [.obj 12, .tup k] (Lg cs m es rows kn ic wi st ts wl ti as g) K := by
  revert h
  refine key_cases (p := fun k => K (.at (.int (frst k))) (Lg cs m es rows kn ic wi st ts wl ti as g) → f_law_first [.obj 12, .tup k] (Lg cs m es rows kn ic wi st ts wl ti as g) K) hk ?_
  refine ⟨fun h => ?_, fun h => ?_, fun h => ?_, fun h => ?_, fun h => ?_, fun h => ?_, fun h => ?_, fun h => ?_, fun h => ?_, fun h => ?_, fun h => ?_, fun h => ?_, fun h => ?_, trivial⟩ <;> (walk_at "ev"; exact h)
def rgbOf (es : List kvP) (k : List At) : Int := ((look es k).map (·.2)).getD (frst k)
theorem key_word {k : List At} (hk : k ∈ keys) : k.all (ofKind false) = true := List.all_eq_true.mp (show keys.all (fun k => k.all (ofKind false)) = true by decide) k hk
theorem P_rgb {k : List At} (hk : k ∈ keys) (h : K (.at (.int (rgbOf es k))) (Lg cs m es rows kn ic wi st ts wl ti as g)) : f_P_rgb [.obj 3, .tup k] (Lg cs m es rows kn ic wi st ts wl ti as g) K := by
  have hw := key_word hk
  have sp : ∀ K : KV, K (.at (.int (frst k))) (Lg cs m es rows kn ic wi st ts wl ti as g) → f_P_first [.obj 3, .tup k] (Lg cs m es rows kn ic wi st ts wl ti as g) K := fun K h => P_first hk h
  unfold f_P_rgb d_P_rgb
  generalize f_P_first = q at sp ⊢
  unfold rgbOf at h
  walk_at "ev"
  cases hl : look es k with
  | none =>
    rw [hl] at h
    walk_at "ev"
    exact sp _ h
  | some e =>
    rw [hl] at h
    walk_at "ev"
    rw [hl]
    exact h
/-! loops -/
theorem loop_T {xss : List (List At)} {loc0 : Loc} {l0 : Led} {bd : Bd} {body : XS} {R : KV} {K : Loc → Led → Prop} (I : List ((List At)) → Loc → Led → Prop) (i0 : I xss loc0 l0)
    (done : ∀ loc l, I [] loc l → K loc l) (step : ∀ v r loc l, I (v :: r) loc l → bd (.tup v) loc fun loc => body loc l R fun loc l => I r loc l) :
    ∃ (N : Nat) (I : Nat → Loc → Led → Prop), I 0 loc0 l0 ∧ ∀ i loc l, I i loc l → srcT xss i l fun o => Option.casesOn o (K loc l) fun v => i < N ∧ bd v loc fun loc => body loc l R fun loc l => I (i + 1) loc l := by
  refine ⟨xss.length, fun i loc l => I (xss.drop i) loc l, i0, fun i loc l hi => ?_⟩
  have hi : I (xss.drop i) loc l := hi
  unfold srcT
  by_cases q : i < xss.length
  · rw [List.getElem?_eq_getElem q]
    rw [List.drop_eq_getElem_cons q] at hi
    exact ⟨q, step _ _ loc l hi⟩
  · rw [List.getElem?_eq_none (Nat.not_lt.mp q)]
    rw [List.drop_eq_nil_of_le (Nat.not_lt.mp q)] at hi
    exact done loc l hi
theorem loop_Y {b : List UInt8} {loc0 : Loc} {l0 : Led} {bd : Bd} {body : XS} {R : KV} {K : Loc → Led → Prop} (I : List (UInt8) → Loc → Led → Prop) (i0 : I b loc0 l0)
    (done : ∀ loc l, I [] loc l → K loc l) (step : ∀ v r loc l, I (v :: r) loc l → bd (.at (.int v.toNat)) loc fun loc => body loc l R fun loc l => I r loc l) :
    ∃ (N : Nat) (I : Nat → Loc → Led → Prop), I 0 loc0 l0 ∧ ∀ i loc l, I i loc l → srcY b i l fun o => Option.casesOn o (K loc l) fun v => i < N ∧ bd v loc fun loc => body loc l R fun loc l => I (i + 1) loc l := by
  refine ⟨b.length, fun i loc l => I (b.drop i) loc l, i0, fun i loc l hi => ?_⟩
  have hi : I (b.drop i) loc l := hi
  unfold srcY
  by_cases q : i < b.length
  · rw [List.getElem?_eq_getElem q]
    rw [List.drop_eq_getElem_cons q] at hi
    exact ⟨q, step _ _ loc l hi⟩
  · rw [List.getElem?_eq_none (Nat.not_lt.mp q)]
    rw [List.drop_eq_nil_of_le (Nat.not_lt.mp q)] at hi
    exact done loc l hi
theorem loop_R {n : Nat} {loc0 : Loc} {l0 : Led} {bd : Bd} {body : XS} {R : KV} {K : Loc → Led → Prop} (I : Nat → Loc → Led → Prop) (le : ∀ i loc l, I i loc l → i ≤ n) (i0 : I 0 loc0 l0)
    (done : ∀ loc l, I n loc l → K loc l) (step : ∀ i loc l, i < n → I i loc l → bd (.at (.int i)) loc fun loc => body loc l R fun loc l => I (i + 1) loc l) :
    ∃ (N : Nat) (I : Nat → Loc → Led → Prop), I 0 loc0 l0 ∧ ∀ i loc l, I i loc l → srcR n i l fun o => Option.casesOn o (K loc l) fun v => i < N ∧ bd v loc fun loc => body loc l R fun loc l => I (i + 1) loc l := by
  refine ⟨n, I, i0, fun i loc l h => ?_⟩
  unfold srcR
  by_cases q : i < n
  · rw [decide_eq_true q]
    exact ⟨q, step i loc l q h⟩
  · rw [decide_eq_false q]
    have : i = n := Nat.le_antisymm (le _ _ _ h) (Nat.not_lt.mp q)
    exact done loc l (this ▸ h)
theorem loop_L {j : Nat} {loc0 : Loc} {l0 : Led} {bd : Bd} {body : XS} {R : KV} {K : Loc → Led → Prop} (vs : List AV) (I : List AV → Loc → Led → Prop) (at_ : ∀ r loc l, I r loc l → l[j]? = some (.list vs)) (i0 : I vs loc0 l0)
    (done : ∀ loc l, I [] loc l → K loc l) (step : ∀ v r loc l, I (v :: r) loc l → bd v loc fun loc => body loc l R fun loc l => I r loc l) :
    ∃ (N : Nat) (I : Nat → Loc → Led → Prop), I 0 loc0 l0 ∧ ∀ i loc l, I i loc l → srcL j i l fun o => Option.casesOn o (K loc l) fun v => i < N ∧ bd v loc fun loc => body loc l R fun loc l => I (i + 1) loc l := by
  refine ⟨vs.length, fun i loc l => I (vs.drop i) loc l, i0, fun i loc l hi => ?_⟩
  have hi : I (vs.drop i) loc l := hi
  show ogo l[j]? _
  rw [at_ _ _ _ hi]
  show (fun o => Option.casesOn o (K loc l) fun v => i < vs.length ∧ bd v loc fun loc => body loc l R fun loc l => I (vs.drop (i + 1)) loc l) vs[i]?
  by_cases q : i < vs.length
  · rw [List.getElem?_eq_getElem q]
    rw [List.drop_eq_getElem_cons q] at hi
    exact ⟨q, step _ _ loc l hi⟩
  · rw [List.getElem?_eq_none (Nat.not_lt.mp q)]
    rw [List.drop_eq_nil_of_le (Nat.not_lt.mp q)] at hi
    exact done loc l hi
theorem loop_E {j : Nat} {loc0 : Loc} {l0 : Led} {bd : Bd} {body : XS} {R : KV} {K : Loc → Led → Prop} (xss : List (List At)) (I : Nat → Loc → Led → Prop) (at_ : ∀ i loc l, I i loc l → i ≤ xss.length ∧ l[j]? = some (.list (xss.map .tup))) (i0 : I 0 loc0 l0)
    (done : ∀ loc l, I xss.length loc l → K loc l) (step : ∀ i v loc l, xss[i]? = some v → I i loc l → bd (.two i v) loc fun loc => body loc l R fun loc l => I (i + 1) loc l) :
    ∃ (N : Nat) (I : Nat → Loc → Led → Prop), I 0 loc0 l0 ∧ ∀ i loc l, I i loc l → srcE j i l fun o => Option.casesOn o (K loc l) fun v => i < N ∧ bd v loc fun loc => body loc l R fun loc l => I (i + 1) loc l := by
  refine ⟨xss.length, I, i0, fun i loc l h => ?_⟩
  show ogo l[j]? _
  rw [(at_ _ _ _ h).2]
  refine ⟨by rw [List.length_map]; exact (at_ _ _ _ h).1, ?_⟩
  by_cases q : i < xss.length
  · have e := List.getElem?_eq_getElem q
    rw [List.getElem?_map, e]
    exact ⟨q, step i _ loc l e h⟩
  · rw [List.getElem?_map, List.getElem?_eq_none (Nat.not_lt.mp q)]
    have : i = xss.length := Nat.le_antisymm (at_ _ _ _ h).1 (Nat.not_lt.mp q)
    exact done loc l (this ▸ h)
end
end Og
end

section
open PySem PySem.W PySem.Calls PyProof.Rows
set_option Elab.async false
set_option linter.unusedVariables false
set_option genSizeOf false
set_option genInjectivity false
namespace Og
local macro_rules | `(tactic| walk_at "sd") => `(tactic| first | rfl | exact Nat.le_of_ble_eq_true rfl | exact ⟨false, rfl⟩ | exact ⟨true, rfl⟩ | exact ⟨false, rfl, rfl⟩ | exact ⟨true, rfl, rfl⟩ | decide | assumption | exact Or.inr (by decide) | exact Or.inl (by decide) | omega | (refine And.intro ?_ ?_ <;> walk_at "sd"))
local macro_rules | `(tactic| walk_at "ev") => `(tactic| (conv => whnf); repeat (refine And.intro (by walk_at "sd") ?_; conv => whnf))
section
variable {cs : List Int} {m : Int} {es : List kvP} {rows : List (List At)} {kn : List kvP} {ic wi : List UInt8} {st : List (List At)} {ts : List kvP} {wl : List (List At)} {ti : List At} {as : List (List At)} {g : Led} {K : KV}
theorem rec_t {b : Bool} {p q : Prop} (e : b = true) (h : p) : Bool.rec (motive := fun _ => Prop) q p b := by subst e; exact h
theorem rec_f {b : Bool} {p q : Prop} (e : b = false) (h : q) : Bool.rec (motive := fun _ => Prop) q p b := by subst e; exact h
theorem rec_s {α : Type} {o : Option α} {p : α → Prop} {x : α} (e : o = some x) (h : p x) : Option.rec (motive := fun _ => Prop) False p o := by subst e; exact h
theorem put_len {es : List kvP} {k : List At} {z : Int} : (put k z es).length ≤ es.length + 1 := by
  unfold put putIn
  split
  · rw [List.length_map]; exact Nat.le_succ _
  · rw [List.length_append]; exact Nat.le_refl _
def dropK (k : List At) (es : List kvP) : List kvP := es.filter fun e => !decide (e.1 = k)
theorem look_none {es : List kvP} {k : List At} (h : look es k = none) : dropK k es = es := List.filter_eq_self.mpr fun e m => by
  have := List.find?_eq_none.mp h e m
  rw [decide_eq_true_eq] at this
  rw [decide_eq_false this]; rfl
def putP (k : List At) (z : Int) (es : List kvP) : List kvP := if z = frst k then dropK k (put k z es) else put k z es
theorem P_put {k : List At} {z : Int} (hk : k ∈ keys) (hs : es.length ≤ 900) (h : K (.at .none) (Lg cs m (putP k z es) rows kn ic wi st ts wl ti as g)) : f_P_put [.obj 3, .tup k, .at (.int z)] (Lg cs m es rows kn ic wi st ts wl ti as g) K := by
  have hw := key_word hk
  have hs1 : small es := Nat.le_trans hs (by decide)
  have hs2 : small (put k z es) := Nat.le_trans put_len (by omega)
  have sp : ∀ (K : KV) es, K (.at (.int (frst k))) (Lg cs m es rows kn ic wi st ts wl ti as g) → f_P_first [.obj 3, .tup k] (Lg cs m es rows kn ic wi st ts wl ti as g) K := fun K es h => P_first hk h
  unfold f_P_put d_P_put
  generalize f_P_first = q at sp ⊢
  walk_at "ev"
  refine sp _ (put k z es) ?_
  unfold putP at h
  walk_at "ev"
  by_cases e : z = frst k
  · refine rec_t (beq_iff_eq.mpr e) ?_
    rw [if_pos e] at h
    walk_at "ev"
    rw [look_put, if_pos rfl]
    exact h
  · refine rec_f (beq_eq_false_iff_ne.mpr e) ?_
    rw [if_neg e] at h
    exact h
theorem P_put_back {k : List At} (hk : k ∈ keys) (hs : es.length ≤ 900) (h : K (.at .none) (Lg cs m (dropK k es) rows kn ic wi st ts wl ti as g)) : f_P_put_back [.obj 3, .tup k] (Lg cs m es rows kn ic wi st ts wl ti as g) K := by
  have hw := key_word hk
  have hs1 : small es := Nat.le_trans hs (by decide)
  walk_at "ev"
  cases hl : look es k with
  | none =>
    rw [look_none hl] at h
    exact h
  | some e =>
    walk_at "ev"
    rw [hl]
    exact h
abbrev Bp := List UInt8 × List UInt8
def tt (p : Bp) : List At := [.bytes p.1, .bytes p.2]
def pushT (x : Bp) (t : List Bp) : List Bp := if t.length = 2 then t.tail ++ [x] else t ++ [x]
theorem T_push {t : List Bp} (ht : t.length ≤ 2) (h : K (.at .none) (Lg cs m es rows kn ic wi ((pushT (ic, wi) t).map tt) ts wl ti as g)) : f_T_push [.obj 10, .at (.int 2)] (Lg cs m es rows kn ic wi (t.map tt) ts wl ti as g) K := by
  rcases t with _ | ⟨a, _ | ⟨b, _ | ⟨d, t⟩⟩⟩
  · walk_at "ev"; exact h
  · walk_at "ev"; exact h
  · walk_at "ev"; exact h
  · exact absurd ht (by simp)
theorem T_pop {w : Int} (hw : w = 0 ∨ w = 1 ∨ w = 2) {t : List Bp} (ht : t.length ≤ 2) (h : K (.at .none) (Lg cs m es rows kn (if w = 2 then ic else (t.getLast?.map (·.1)).getD ic) (if w = 1 then wi else (t.getLast?.map (·.2)).getD wi) (t.dropLast.map tt) ts wl ti as g)) : f_T_pop [.obj 10, .at (.int w)] (Lg cs m es rows kn ic wi (t.map tt) ts wl ti as g) K := by
  rcases t with _ | ⟨a, _ | ⟨b, _ | ⟨d, t⟩⟩⟩
  · rcases hw with rfl | rfl | rfl <;> (walk_at "ev"; exact h)
  · rcases hw with rfl | rfl | rfl <;> (walk_at "ev"; exact h)
  · rcases hw with rfl | rfl | rfl <;> (walk_at "ev"; exact h)
  · exact absurd ht (by simp)
theorem colour_fore (h : K (.at (.int (rgbOf es [.str 2, .int 10]))) (Lg cs m es rows kn ic wi st ts wl ti as g)) : f_P_colour_rgb [.obj 3, .at (.int (-1)), .at (.bool true)] (Lg cs m es rows kn ic wi st ts wl ti as g) K := by
  have sp : ∀ (K : KV), K _ _ → f_P_rgb [.obj 3, .tup [.str 2, .int 10]] (Lg cs m es rows kn ic wi st ts wl ti as g) K := fun K h => P_rgb (by decide) h
  unfold f_P_colour_rgb d_P_colour_rgb
  generalize f_P_rgb = q at sp ⊢
  walk_at "ev"
  exact sp _ h
theorem colour_back (h : K (.at (.int (rgbOf es [.str 2, .int 11]))) (Lg cs m es rows kn ic wi st ts wl ti as g)) : f_P_colour_rgb [.obj 3, .at (.int (-1)), .at (.bool false)] (Lg cs m es rows kn ic wi st ts wl ti as g) K := by
  have sp : ∀ (K : KV), K _ _ → f_P_rgb [.obj 3, .tup [.str 2, .int 11]] (Lg cs m es rows kn ic wi st ts wl ti as g) K := fun K h => P_rgb (by decide) h
  unfold f_P_colour_rgb d_P_colour_rgb
  generalize f_P_rgb = q at sp ⊢
  walk_at "ev"
  exact sp _ h
theorem colour_196 (h : K (.at (.int (rgbOf es [.str 0, .int 196]))) (Lg cs m es rows kn ic wi st ts wl ti as g)) : f_P_colour_rgb [.obj 3, .at (.int 196), .at (.bool true)] (Lg cs m es rows kn ic wi st ts wl ti as g) K := by
  have sp : ∀ (K : KV), K _ _ → f_P_rgb [.obj 3, .tup [.str 0, .int 196]] (Lg cs m es rows kn ic wi st ts wl ti as g) K := fun K h => P_rgb (by decide) h
  unfold f_P_colour_rgb d_P_colour_rgb
  generalize f_P_rgb = q at sp ⊢
  walk_at "ev"
  exact sp _ h
theorem erase_last {α : Type} {l : List α} {x : α} : ∀ {n : Nat}, n = l.length → (l ++ [x]).eraseIdx n = l := by
  induction l with
  | nil => intro n e; subst e; rfl
  | cons y r ih => intro n e; subst e; exact congrArg (y :: ·) (ih rfl)
theorem draw {k : Int} {rest : Led} (hk : 0 < k) (hc : cs.length ≤ 900) (h : ∀ (z m' : Int) (cs' : List Int), 0 ≤ z → z < k → cs'.length ≤ 900 → K (.at (.int z)) (.sdict [(3, .obj 1), (4, .at (.int m'))] :: .list (cs'.map fun z => .at (.int z)) :: rest)) :
    f_law_draw [.obj 0, .at (.int k)] (.sdict [(3, .obj 1), (4, .at (.int m))] :: .list (cs.map fun z => .at (.int z)) :: rest) K := by
  have hk0 : k ≠ 0 := Int.ne_of_gt hk
  rcases List.eq_nil_or_concat cs with e | ⟨ds, c, e⟩
  · subst e
    walk_at "ev"
    exact h _ _ [] (Int.fmod_nonneg_of_pos _ hk) (Int.fmod_lt_of_pos _ hk) (Nat.zero_le _)
  · subst e
    have h1 : ((ds.concat c).map fun z => AV.at (.int z)).isEmpty = false := by simp
    have h2 : ((ds.concat c).map fun z => AV.at (.int z))[((ds.concat c).map fun z => AV.at (.int z)).length - 1]? = some (.at (.int c)) := by simp
    have h3 : ((ds.concat c).map fun z => AV.at (.int z)).eraseIdx (((ds.concat c).map fun z => AV.at (.int z)).length - 1) = ds.map fun z => AV.at (.int z) := by rw [List.concat_eq_append, List.map_append]; exact erase_last (by simp)
    have h4 : small ((ds.concat c).map fun z => AV.at (.int z)) := by unfold small; rw [List.length_map]; omega
    have h' := h (c.fmod k) m ds (Int.fmod_nonneg_of_pos _ hk) (Int.fmod_lt_of_pos _ hk) (by simp at hc; omega)
    generalize ((ds.concat c).map fun z => AV.at (.int z)) = L at h1 h2 h3 h4 ⊢
    rw [← h3] at h'
    walk_at "ev"
    refine rec_t (by show (!L.isEmpty) = true; rw [h1]; rfl) ?_
    walk_at "ev"
    refine rec_s h2 ?_
    walk_at "ev"
    exact h'
end
end Og
end

section
open PySem PySem.W PySem.Calls PyProof.Rows
set_option Elab.async false
set_option linter.unusedVariables false
set_option genSizeOf false
set_option genInjectivity false
namespace Og
local macro_rules | `(tactic| walk_at "sd") => `(tactic| first | rfl | exact Nat.le_of_ble_eq_true rfl | exact ⟨false, rfl⟩ | exact ⟨true, rfl⟩ | exact ⟨false, rfl, rfl⟩ | exact ⟨true, rfl, rfl⟩ | decide | assumption | exact Or.inr (by decide) | exact Or.inl (by decide) | omega | (refine And.intro ?_ ?_ <;> walk_at "sd"))
local macro_rules | `(tactic| walk_at "ev") => `(tactic| (conv => whnf); repeat (refine And.intro (by walk_at "sd") ?_; conv => whnf))
set_option maxHeartbeats 1000000
section
variable {cs : List Int} {m : Int} {es : List kvP} {rows : List (List At)} {kn : List kvP} {ic wi : List UInt8} {st : List (List At)} {ts : List kvP} {wl : List (List At)} {ti : List At} {as : List (List At)} {g : Led} {K : KV}
/-! the ledger of a turn's end, in its first order again -/
def js (a b : Nat) : List Nat := [0, 1, 2, 3, 4, 5, 6, 7, 8, 9, 10, 11, 12, a, 14, b]
def Canon (l L : Led) : Prop := ∃ a b, (js a b).Nodup ∧ Paired (fun j o' => ∃ o, l[j]? = some o ∧ RelO (js a b) o' o) (js a b) L
theorem back_map {α : Type} {f : α → AV} {ks : List Nat} (hf : ∀ x, backV ks (f x) = some (f x)) (xs : List α) : Paired (fun x' x => backV ks x' = some x) (xs.map f) (xs.map f) := by
  induction xs with
  | nil => exact .nil
  | cons x r ih => exact .cons (hf x) ih
theorem canon (a b : Nat) {l : Led} (hn : (js a b).Nodup) (h0 : l[0]? = some (.sdict [(3, .obj 1), (4, .at (.int m))])) (h1 : l[1]? = some (.list (cs.map fun z => .at (.int z)))) (h2 : l[2]? = some (.attrs [(5, .at (.int 1122867)), (6, .at (.int 4478310)), (7, .obj 4)])) (h3 : l[3]? = some (.inst 138 2))
    (h4 : l[4]? = some (.dict false es)) (h5 : l[5]? = some (.attrs [(8, .obj 7), (9, .obj 8)])) (h6 : l[6]? = some (.inst 180 5)) (h7 : l[7]? = some (.list (rows.map .tup))) (h8 : l[8]? = some (.dict true kn))
    (h9 : l[9]? = some (.attrs [(10, .at (.bytes ic)), (11, .at (.bytes wi)), (12, .obj 11)])) (h10 : l[10]? = some (.inst 74 9)) (h11 : l[11]? = some (.list (st.map .tup)))
    (h12 : l[12]? = some (.sdict [(5, .at (.int 1122867)), (6, .at (.int 4478310)), (13, .obj a), (14, .obj 14), (15, .tup ti), (16, .obj b)])) (h13 : l[a]? = some (.dict false ts)) (h14 : l[14]? = some (.list (wl.map .tup))) (h15 : l[b]? = some (.list (as.map .tup))) :
    Canon l (Lg cs m es rows kn ic wi st ts wl ti as []) :=
  ⟨a, b, hn, .cons ⟨_, h0, _, rfl, .cons ⟨rfl, rfl⟩ (.cons ⟨rfl, rfl⟩ .nil)⟩ (.cons ⟨_, h1, _, rfl, back_map (fun _ => rfl) _⟩ (.cons ⟨_, h2, _, rfl, .cons ⟨rfl, rfl⟩ (.cons ⟨rfl, rfl⟩ (.cons ⟨rfl, rfl⟩ .nil))⟩ (.cons ⟨_, h3, _, rfl, rfl⟩
    (.cons ⟨_, h4, rfl⟩ (.cons ⟨_, h5, _, rfl, .cons ⟨rfl, rfl⟩ (.cons ⟨rfl, rfl⟩ .nil)⟩ (.cons ⟨_, h6, _, rfl, rfl⟩ (.cons ⟨_, h7, _, rfl, back_map (fun _ => rfl) _⟩ (.cons ⟨_, h8, rfl⟩
    (.cons ⟨_, h9, _, rfl, .cons ⟨rfl, rfl⟩ (.cons ⟨rfl, rfl⟩ (.cons ⟨rfl, rfl⟩ .nil))⟩ (.cons ⟨_, h10, _, rfl, rfl⟩ (.cons ⟨_, h11, _, rfl, back_map (fun _ => rfl) _⟩
    (.cons ⟨_, h12, _, rfl, .cons ⟨rfl, rfl⟩ (.cons ⟨rfl, rfl⟩ (.cons ⟨rfl, rfl⟩ (.cons ⟨rfl, rfl⟩ (.cons ⟨rfl, rfl⟩ (.cons ⟨rfl, rfl⟩ .nil)))))⟩ (.cons ⟨_, h13, rfl⟩ (.cons ⟨_, h14, _, rfl, back_map (fun _ => rfl) _⟩ (.cons ⟨_, h15, _, rfl, back_map (fun _ => rfl) _⟩ .nil)))))))))))))))⟩
/-- the ledger, the world's turned and aside at a and b -/
def Lw (a b : Nat) (cs : List Int) (m : Int) (es : List kvP) (rows : List (List At)) (kn : List kvP) (ic wi : List UInt8) (st : List (List At)) (ts : List kvP) (wl : List (List At)) (ti : List At) (as : List (List At)) (g : Led) : Led :=
  [.sdict [(3, .obj 1), (4, .at (.int m))], .list (cs.map fun z => .at (.int z)),
   .attrs [(5, .at (.int 1122867)), (6, .at (.int 4478310)), (7, .obj 4)], .inst 138 2, .dict false es,
   .attrs [(8, .obj 7), (9, .obj 8)], .inst 180 5, .list (rows.map .tup), .dict true kn,
   .attrs [(10, .at (.bytes ic)), (11, .at (.bytes wi)), (12, .obj 11)], .inst 74 9, .list (st.map .tup),
   .sdict [(5, .at (.int 1122867)), (6, .at (.int 4478310)), (13, .obj a), (14, .obj 14), (15, .tup ti), (16, .obj b)], .dict false ts, .list (wl.map .tup), .list (as.map .tup)] ++ g
theorem canonW {a b : Nat} {t0 : List kvP} {a0 : List (List At)} (hn : (js a b).Nodup) (ha : (Lw a b cs m es rows kn ic wi st t0 wl ti a0 g)[a]? = some (.dict false ts)) (hb : (Lw a b cs m es rows kn ic wi st t0 wl ti a0 g)[b]? = some (.list (as.map .tup))) :
    Canon (Lw a b cs m es rows kn ic wi st t0 wl ti a0 g) (Lg cs m es rows kn ic wi st ts wl ti as []) := canon a b hn rfl rfl rfl rfl rfl rfl rfl rfl rfl rfl rfl rfl rfl ha rfl hb
/-! titles -/
theorem T_put {w : Int} (hw : w = 0 ∨ w = 1 ∨ w = 2) {b : List UInt8} (h : K (.at .none) (Lg cs m es rows kn (if w = 2 then ic else b) (if w = 1 then wi else b) st ts wl ti as g)) : f_T_put [.obj 10, .at (.int w), .at (.bytes b)] (Lg cs m es rows kn ic wi st ts wl ti as g) K := by
  rcases hw with rfl | rfl | rfl
  · exact T_put0 h
  · exact T_put1 h
  · exact T_put2 h
def DrawOk (q : FL) : Prop := ∀ {cs : List Int} {m : Int} {K : KV} (k : Int) {rest : Led}, 0 < k → cs.length ≤ 900 → (∀ (z m' : Int) (cs' : List Int), 0 ≤ z → z < k → cs'.length ≤ 900 → K (.at (.int z)) (.sdict [(3, .obj 1), (4, .at (.int m'))] :: .list (cs'.map fun z => .at (.int z)) :: rest)) →
    q [.obj 0, .at (.int k)] (.sdict [(3, .obj 1), (4, .at (.int m))] :: .list (cs.map fun z => .at (.int z)) :: rest) K
theorem draw_ok : DrawOk f_law_draw := fun {cs m K} k {rest} hk hc h => draw hk hc h
theorem pa1 (a : AV) : pick (some (-2)) none none [a] = [a] := by kernel_rfl
theorem pa2 (a b : AV) : pick (some (-2)) none none [a, b] = [a, b] := by kernel_rfl
theorem pa3 (a b c : AV) : pick (some (-2)) none none [a, b, c] = [b, c] := by kernel_rfl
theorem pb0 : pick none (some (-1)) none ([] : List AV) = [] := by kernel_rfl
theorem pb1 (a : AV) : pick none (some (-1)) none [a] = [] := by kernel_rfl
theorem pb2 (a b : AV) : pick none (some (-1)) none [a, b] = [a] := by kernel_rfl
theorem in_l {xs ys : List AV} (e : xs = ys) : some (AObj.list xs) = some (AObj.list ys) := congrArg _ (congrArg _ e)
theorem three {z : Int} (a : 0 ≤ z) (b : z < 3) : z = 0 ∨ z = 1 ∨ z = 2 := by omega
theorem titled {w : Int} (hw : w = 8 ∨ w = 9 ∨ w = 10) {t : List Bp} (ht : t.length ≤ 2) (hc : cs.length ≤ 900)
    (h : ∀ l (cs' : List Int) m' ic' wi' (t' : List Bp), cs'.length ≤ 900 → t'.length ≤ 2 → Canon l (Lg cs' m' es rows kn ic' wi' (t'.map tt) ts wl (tt (ic', wi')) (t'.map tt) []) → K (.at .none) l) :
    f_law_titled [.obj 0, .obj 10, .obj 12, .at (.int w)] (Lg cs m es rows kn ic wi (t.map tt) ts wl (tt (ic, wi)) (t.map tt) []) K := by
  have sd : DrawOk f_law_draw := draw_ok
  unfold f_law_titled d_law_titled
  generalize f_law_draw = q at sd ⊢
  walk_at "ev"
  refine sd _ (by decide) hc fun z m' cs' z0 z1 hc' => ?_
  have hz := three z0 z1
  clear z0 z1
  rcases hw with rfl | rfl | rfl
  · walk_at "ev"
    refine sd _ (by decide) hc' fun z' m' cs' z0 z1 hc' => ?_
    have hz' := three z0 z1
    clear z0 z1
    rcases hz with rfl | rfl | rfl <;> rcases hz' with rfl | rfl | rfl <;> (walk_at "ev"; exact h (Lw 13 15 _ _ _ _ _ _ _ _ _ _ _ _ []) _ _ _ _ t hc' ht (canonW (by decide) rfl rfl))
  · rcases t with _ | ⟨a, _ | ⟨b, _ | ⟨d, t⟩⟩⟩
    · rcases hz with rfl | rfl | rfl <;> (walk_at "ev"; exact h (Lw 13 18 _ _ _ _ _ _ _ _ _ _ _ _ [_, _, _]) _ _ _ _ [(ic, wi)] hc' (Nat.le_of_ble_eq_true rfl) (canonW (by decide) rfl (in_l (pa1 _))))
    · rcases hz with rfl | rfl | rfl <;> (walk_at "ev"; exact h (Lw 13 18 _ _ _ _ _ _ _ _ _ _ _ _ [_, _, _]) _ _ _ _ [a, (ic, wi)] hc' (Nat.le_of_ble_eq_true rfl) (canonW (by decide) rfl (in_l (pa2 _ _))))
    · rcases hz with rfl | rfl | rfl <;> (walk_at "ev"; exact h (Lw 13 18 _ _ _ _ _ _ _ _ _ _ _ _ [_, _, _]) _ _ _ _ [b, (ic, wi)] hc' (Nat.le_of_ble_eq_true rfl) (canonW (by decide) rfl (in_l (pa3 _ _ _))))
    · exact absurd ht (by simp)
  · rcases t with _ | ⟨a, _ | ⟨b, _ | ⟨d, t⟩⟩⟩
    · rcases hz with rfl | rfl | rfl <;> (walk_at "ev"; exact h (Lw 13 16 _ _ _ _ _ _ _ _ _ _ _ _ [_]) _ _ _ _ [] hc' (by decide) (canonW (as := []) (by decide) rfl (in_l pb0)))
    · rcases hz with rfl | rfl | rfl <;> (walk_at "ev"; exact h (Lw 13 16 _ _ _ _ _ _ _ _ _ _ _ _ [_]) _ _ _ _ [] hc' (by decide) (canonW (as := []) (by decide) rfl (in_l (pb1 _))))
    · rcases hz with rfl | rfl | rfl <;> (walk_at "ev"; exact h (Lw 13 16 _ _ _ _ _ _ _ _ _ _ _ _ [_]) _ _ _ _ [a] hc' (Nat.le_of_ble_eq_true rfl) (canonW (by decide) rfl (in_l (pb2 _ _))))
    · exact absurd ht (by simp)
end
end Og
end

section
open PySem PySem.W PySem.Calls PyProof.Rows
set_option Elab.async false
set_option linter.unusedVariables false
set_option genSizeOf false
set_option genInjectivity false
namespace Og
local macro_rules | `(tactic| walk_at "sd") => `(tactic| first | rfl | exact Nat.le_of_ble_eq_true rfl | exact ⟨false, rfl⟩ | exact ⟨true, rfl⟩ | exact ⟨false, rfl, rfl⟩ | exact ⟨true, rfl, rfl⟩ | decide | assumption | exact Or.inr (by decide) | exact Or.inl (by decide) | omega | (refine And.intro ?_ ?_ <;> walk_at "sd"))
local macro_rules | `(tactic| walk_at "ev") => `(tactic| (conv => whnf); repeat (refine And.intro (by walk_at "sd") ?_; conv => whnf))
section
variable {cs : List Int} {m : Int} {es : List kvP} {rows : List (List At)} {kn : List kvP} {ic wi : List UInt8} {st : List (List At)} {ts : List kvP} {wl : List (List At)} {ti : List At} {as : List (List At)} {g : Led} {K : KV}
set_option maxHeartbeats 1000000
/-- the changes and what the law's own dict says -/
structure Sm (es ts : List kvP) : Prop where
  perm : es.Perm ts
  nodup : (es.map (·.1)).Nodup
  sub : ∀ e ∈ es, e.1 ∈ keys
theorem Sm.nodup' {es ts : List kvP} (s : Sm es ts) : (ts.map (·.1)).Nodup := (s.perm.map _).nodup_iff.mp s.nodup
theorem Sm.sub' {es ts : List kvP} (s : Sm es ts) : ∀ e ∈ ts, e.1 ∈ keys := fun e m => s.sub e (s.perm.mem_iff.mpr m)
theorem look_mem {es : List kvP} (hn : (es.map (·.1)).Nodup) {e : kvP} (m : e ∈ es) : look es e.1 = some e := by
  induction es with
  | nil => cases m
  | cons x r ih =>
    rw [List.map_cons, List.nodup_cons] at hn
    unfold look
    rw [List.find?_cons]
    rcases List.mem_cons.mp m with rfl | m
    · rw [decide_eq_true rfl]
    · have : x.1 ≠ e.1 := fun z => hn.1 (z ▸ List.mem_map_of_mem m)
      rw [decide_eq_false this]
      exact ih hn.2 m
theorem look_key {es : List kvP} {k : List At} {e : kvP} (h : look es k = some e) : e ∈ es ∧ e.1 = k := ⟨List.mem_of_find?_eq_some h, of_decide_eq_true (List.find?_some (p := fun e : kvP => decide (e.1 = k)) h)⟩
theorem Sm.look {es ts : List kvP} (s : Sm es ts) (k : List At) : look es k = look ts k := by
  cases h : Og.look es k with
  | some e =>
    obtain ⟨m, rfl⟩ := look_key h
    exact (look_mem s.nodup' (s.perm.mem_iff.mp m)).symm
  | none =>
    cases h' : Og.look ts k with
    | none => rfl
    | some e =>
      obtain ⟨m, rfl⟩ := look_key h'
      rw [look_mem s.nodup (s.perm.mem_iff.mpr m)] at h; cases h
theorem Sm.rgb {es ts : List kvP} (s : Sm es ts) (k : List At) : rgbOf es k = rgbOf ts k := by unfold rgbOf; rw [s.look k]
theorem palette_right (s : Sm es ts) (h : ∀ g, K (.at (.bool true)) (Lg cs m es rows kn ic wi st ts wl ti as g)) : f_law_palette_right [.obj 3, .obj 12] (Lg cs m es rows kn ic wi st ts wl ti as []) K := by
  have sF : ∀ (k : List At) (hk : k ∈ keys) (g K), K (.at (.int (frst k))) (Lg cs m es rows kn ic wi st ts wl ti as g) → f_P_first [.obj 3, .tup k] (Lg cs m es rows kn ic wi st ts wl ti as g) K := fun k hk g K h => P_first hk h
  have sL : ∀ (k : List At) (hk : k ∈ keys) (g K), K (.at (.int (frst k))) (Lg cs m es rows kn ic wi st ts wl ti as g) → f_law_first [.obj 12, .tup k] (Lg cs m es rows kn ic wi st ts wl ti as g) K := fun k hk g K h => L_first hk h
  have sR : ∀ (k : List At) (hk : k ∈ keys) (g K), K (.at (.int (rgbOf es k))) (Lg cs m es rows kn ic wi st ts wl ti as g) → f_P_rgb [.obj 3, .tup k] (Lg cs m es rows kn ic wi st ts wl ti as g) K := fun k hk g K h => P_rgb hk h
  have sC : (∀ K, K (.at (.int (rgbOf es [.str 2, .int 10]))) (Lg cs m es rows kn ic wi st ts wl ti as []) → f_P_colour_rgb [.obj 3, .at (.int (-1)), .at (.bool true)] (Lg cs m es rows kn ic wi st ts wl ti as []) K) ∧
    (∀ K, K (.at (.int (rgbOf es [.str 2, .int 11]))) (Lg cs m es rows kn ic wi st ts wl ti as []) → f_P_colour_rgb [.obj 3, .at (.int (-1)), .at (.bool false)] (Lg cs m es rows kn ic wi st ts wl ti as []) K) ∧
    (∀ K, K (.at (.int (rgbOf es [.str 0, .int 196]))) (Lg cs m es rows kn ic wi st ts wl ti as []) → f_P_colour_rgb [.obj 3, .at (.int 196), .at (.bool true)] (Lg cs m es rows kn ic wi st ts wl ti as []) K) ∧
    (∀ g K, K (.at (.int 658188)) (Lg cs m es rows kn ic wi st ts wl ti as g) → f_P_colour_rgb [.obj 3, .at (.int 17435404), .at (.bool false)] (Lg cs m es rows kn ic wi st ts wl ti as g) K) :=
    ⟨fun K h => colour_fore h, fun K h => colour_back h, fun K h => colour_196 h, fun g K h => by walk_at "ev"; exact h⟩
  obtain ⟨c1, c2, c3, c4⟩ := sC
  unfold f_law_palette_right d_law_palette_right
  generalize f_P_first = q1 at sF ⊢
  generalize f_law_first = q2 at sL ⊢
  generalize f_P_rgb = q3 at sR ⊢
  generalize f_P_colour_rgb = q4 at c1 c2 c3 c4 ⊢
  have hd : (false = false ∧ es.length = ts.length ∧ (∀ e ∈ es, look ts e.1 = some e) ∧ ∀ e ∈ es, e.1.all (ofKind false) = true) := ⟨rfl, s.perm.length_eq, fun e m => look_mem s.nodup' (s.perm.mem_iff.mp m), fun e m => key_word (s.sub e m)⟩
  walk_at "ev"
  refine loop_T (fun r loc l => (∀ k ∈ r, k ∈ keys) ∧ l = Lg cs m es rows kn ic wi st ts wl ti as [] ∧ ∃ o1 o2 o3, loc = [some (.obj 3), some (.obj 12), o1, o2, o3]) ⟨fun k m => m, rfl, none, none, none, rfl⟩ ?_ ?_
  · rintro loc l ⟨-, rfl, o1, o2, o3, rfl⟩
    walk_at "ev"
    refine c1 _ ?_
    walk_at "ev"
    refine c2 _ ?_
    walk_at "ev"
    refine c3 _ ?_
    walk_at "ev"
    refine c4 [.list [.at (.int _), .at (.int _), .at (.int _)]] _ ?_
    walk_at "ev"
    refine sR [.str 2, .int 10] (by decide) [.list [.at (.int _), .at (.int _), .at (.int _), .at (.int _)]] _ ?_
    walk_at "ev"
    refine sR [.str 2, .int 11] (by decide) [.list [.at (.int _), .at (.int _), .at (.int _), .at (.int _)]] _ ?_
    walk_at "ev"
    refine sR [.str 0, .int 196] (by decide) [.list [.at (.int _), .at (.int _), .at (.int _), .at (.int _)]] _ ?_
    walk_at "ev"
    rw [decide_eq_true rfl]
    exact h [_, _]
  · rintro k r loc l ⟨hk, rfl, o1, o2, o3, rfl⟩
    have hk1 := hk k (List.mem_cons_self ..)
    have hw := key_word hk1
    have tail : ∀ {P : Prop}, ((∀ k ∈ r, k ∈ keys) → P) → P := fun f => f fun k m => hk k (List.mem_cons_of_mem _ m)
    walk_at "ev"
    cases hl : look ts k with
    | none =>
      have e : rgbOf es k = frst k := by unfold rgbOf; rw [s.look, hl]; rfl
      walk_at "ev"
      refine sL k hk1 [] _ ?_
      walk_at "ev"
      refine sR k hk1 [] _ ?_
      walk_at "ev"
      refine rec_f (by show (rgbOf es k != frst k) = false; rw [e]; exact bne_self_eq_false _) ?_
      walk_at "ev"
      refine sF k hk1 [] _ ?_
      walk_at "ev"
      refine sL k hk1 [] _ ?_
      walk_at "ev"
      refine rec_f (bne_self_eq_false (frst k)) ?_
      walk_at "ev"
      exact ⟨fun k m => hk k (List.mem_cons_of_mem _ m), rfl, _, _, _, rfl⟩
    | some e =>
      have e' : rgbOf es k = e.2 := by unfold rgbOf; rw [s.look, hl]; rfl
      walk_at "ev"
      rw [hl]
      walk_at "ev"
      refine sR k hk1 [] _ ?_
      walk_at "ev"
      refine rec_f (by show (rgbOf es k != e.2) = false; rw [e']; exact bne_self_eq_false _) ?_
      walk_at "ev"
      refine sF k hk1 [] _ ?_
      walk_at "ev"
      refine sL k hk1 [] _ ?_
      walk_at "ev"
      refine rec_f (bne_self_eq_false (frst k)) ?_
      walk_at "ev"
      exact ⟨fun k m => hk k (List.mem_cons_of_mem _ m), rfl, _, _, _, rfl⟩
end
end Og
end

section
open PySem PySem.W PySem.Calls PyProof.Rows
set_option Elab.async false
set_option linter.unusedVariables false
set_option genSizeOf false
set_option genInjectivity false
namespace Og
local macro_rules | `(tactic| walk_at "sd") => `(tactic| first | rfl | exact Nat.le_of_ble_eq_true rfl | exact ⟨false, rfl⟩ | exact ⟨true, rfl⟩ | exact ⟨false, rfl, rfl⟩ | exact ⟨true, rfl, rfl⟩ | decide | assumption | exact Or.inr (by decide) | exact Or.inl (by decide) | omega | (refine And.intro ?_ ?_ <;> walk_at "sd"))
local macro_rules | `(tactic| walk_at "ev") => `(tactic| (conv => whnf); repeat (refine And.intro (by walk_at "sd") ?_; conv => whnf))
section
variable {cs : List Int} {m : Int} {es : List kvP} {rows : List (List At)} {kn : List kvP} {ic wi : List UInt8} {st : List (List At)} {ts : List kvP} {wl : List (List At)} {ti : List At} {as : List (List At)} {g : Led} {K : KV}
set_option maxHeartbeats 1000000
theorem put_ne {es : List kvP} {k : List At} {z : Int} {x : kvP} (h : x.1 ≠ k) : put k z (x :: es) = x :: put k z es := by
  unfold put putIn
  rw [List.any_cons, decide_eq_false h, Bool.false_or]
  split
  · rw [List.map_cons, if_neg h]
  · rfl
theorem put_eq {es : List kvP} {k : List At} {z : Int} {x : kvP} (h : x.1 = k) (hn : k ∉ es.map (·.1)) : put k z (x :: es) = (k, z) :: es := by
  unfold put putIn
  rw [List.any_cons, decide_eq_true h, Bool.true_or, if_pos rfl, List.map_cons, if_pos h, h]
  exact congrArg _ ((List.map_congr_left fun e m => if_neg fun q : e.1 = k => hn (q ▸ List.mem_map_of_mem (f := (·.1)) m)).trans (List.map_id' es))
theorem drop_ne {es : List kvP} {k : List At} {x : kvP} (h : x.1 ≠ k) : dropK k (x :: es) = x :: dropK k es := List.filter_cons_of_pos (by rw [decide_eq_false h]; rfl)
theorem drop_eq {es : List kvP} {k : List At} {x : kvP} (h : x.1 = k) : dropK k (x :: es) = dropK k es := List.filter_cons_of_neg (by rw [decide_eq_true h]; decide)
theorem drop_id {es : List kvP} {k : List At} (h : k ∉ es.map (·.1)) : dropK k es = es := List.filter_eq_self.mpr fun e m => by
  have : e.1 ≠ k := fun z => h (z ▸ List.mem_map_of_mem (f := (·.1)) m)
  rw [decide_eq_false this]; rfl
theorem drop_put {es : List kvP} {k : List At} {z : Int} (hn : (es.map (·.1)).Nodup) : dropK k (put k z es) = dropK k es := by
  induction es with
  | nil => exact drop_eq rfl
  | cons x r ih =>
    rw [List.map_cons, List.nodup_cons] at hn
    by_cases h : x.1 = k
    · rw [put_eq h (h ▸ hn.1), drop_eq h, drop_eq (x := (k, z)) rfl, drop_id (h ▸ hn.1)]
    · rw [put_ne h, drop_ne h, drop_ne h, ih hn.2]
theorem put_perm {es : List kvP} {k : List At} {z : Int} (hn : (es.map (·.1)).Nodup) : (put k z es).Perm (dropK k es ++ [(k, z)]) := by
  induction es with
  | nil => exact .refl _
  | cons x r ih =>
    rw [List.map_cons, List.nodup_cons] at hn
    by_cases h : x.1 = k
    · rw [put_eq h (h ▸ hn.1), drop_eq h, drop_id (h ▸ hn.1)]
      exact (List.perm_append_singleton _ _).symm
    · rw [put_ne h, drop_ne h]
      exact (ih hn.2).cons x
theorem drop_keys {es : List kvP} {k : List At} : k ∉ (dropK k es).map (·.1) := fun m => by
  obtain ⟨e, m, d⟩ := List.mem_map.mp m
  have := (List.mem_filter.mp m).2
  rw [decide_eq_true d] at this; cases this
theorem Sm.filter {es ts : List kvP} (s : Sm es ts) (p : kvP → Bool) : Sm (es.filter p) (ts.filter p) :=
  ⟨s.perm.filter p, s.nodup.sublist (List.Sublist.map _ List.filter_sublist), fun e m => s.sub e (List.mem_filter.mp m).1⟩
theorem Sm.drop {es ts : List kvP} (s : Sm es ts) (k : List At) : Sm (dropK k es) (dropK k ts) := s.filter _
theorem Sm.put {es ts : List kvP} (s : Sm es ts) {k : List At} (hk : k ∈ keys) (z : Int) : Sm (Og.put k z es) (Og.put k z (dropK k ts)) := by
  have p : (Og.put k z es).Perm (dropK k ts ++ [(k, z)]) := (put_perm s.nodup).trans ((s.drop k).perm.append_right _)
  rw [put_new drop_keys]
  refine ⟨p, (p.map (·.1)).nodup_iff.mpr ?_, fun e m => ?_⟩
  · rw [List.map_append, List.nodup_append]
    exact ⟨(s.drop k).nodup', List.nodup_cons.mpr ⟨fun z => (nomatch z), List.nodup_nil⟩, fun a m b m' z => drop_keys (es := ts) (k := k) (by rw [List.map_singleton, List.mem_singleton] at m'; have e2 : a = k := z.trans m'; rw [e2] at m; exact m)⟩
  · rcases List.mem_append.mp (p.mem_iff.mp m) with m | m
    · exact (s.drop k).sub' e m
    · rw [List.mem_singleton.mp m]; exact hk
def gV (ts : List kvP) (k : List At) : Int := ((look ts k).map (·.2)).getD 0
theorem gV_mem {ts : List kvP} (hn : (ts.map (·.1)).Nodup) {e : kvP} (m : e ∈ ts) : gV ts e.1 = e.2 := by unfold gV; rw [look_mem hn m]; rfl
theorem map_g {ts : List kvP} (hn : (ts.map (·.1)).Nodup) (p : List At → Bool) : ((ts.filter fun e => p e.1).map fun e => (e.1, gV ts e.1)) = ts.filter fun e => p e.1 := by
  refine (List.map_congr_left fun e m => ?_).trans (List.map_id' _)
  exact Prod.ext rfl (gV_mem hn (List.mem_filter.mp m).1)
theorem key_shape {k : List At} (hk : k ∈ keys) : ∃ a b, k = [.str a, .int b] := key_cases (p := fun k => ∃ a b, k = [.str a, .int b]) hk ⟨⟨_, _, rfl⟩, ⟨_, _, rfl⟩, ⟨_, _, rfl⟩, ⟨_, _, rfl⟩, ⟨_, _, rfl⟩, ⟨_, _, rfl⟩, ⟨_, _, rfl⟩, ⟨_, _, rfl⟩, ⟨_, _, rfl⟩, ⟨_, _, rfl⟩, ⟨_, _, rfl⟩, ⟨_, _, rfl⟩, ⟨_, _, rfl⟩, trivial⟩
def hdN (j : Nat) (k : List At) : Bool := !decide (k.head? = some (.str j))
theorem drop_mid {A B : List kvP} {e : kvP} (hn : ((A ++ e :: B).map (·.1)).Nodup) : dropK e.1 (A ++ e :: B) = A ++ B := by
  rw [List.map_append, List.map_cons, List.nodup_append, List.nodup_cons] at hn
  unfold dropK
  rw [List.filter_append]
  have h1 : A.filter (fun x => !decide (x.1 = e.1)) = A := drop_id (k := e.1) fun m => hn.2.2 _ m _ (List.mem_cons_self ..) rfl
  have h2 : (e :: B).filter (fun x => !decide (x.1 = e.1)) = B := (drop_eq rfl).trans (drop_id hn.2.1.1)
  rw [h1, h2]
theorem put_back_all {j : Nat} (hs : es.length ≤ 900) (hn : (es.map (·.1)).Nodup) (hk : ∀ e ∈ es, e.1 ∈ keys) (h : K (.at .none) (Lg cs m (es.filter fun e => hdN j e.1) rows kn ic wi st ts wl ti as [.list (es.map fun e => .tup e.1)])) :
    f_P_put_back_all [.obj 3, .at (.str j)] (Lg cs m es rows kn ic wi st ts wl ti as []) K := by
  have hs1 : small es := Nat.le_trans hs (by decide)
  walk_at "ev"
  refine loop_L (es.map fun e => .tup e.1) (fun r loc l => ∃ pre post, es = pre ++ post ∧ r = post.map (fun e => .tup e.1) ∧ l = Lg cs m ((pre.filter fun e => hdN j e.1) ++ post) rows kn ic wi st ts wl ti as [.list (es.map fun e => .tup e.1)] ∧ ∃ o, loc = [some (.obj 3), some (.at (.str j)), o]) ?_ ⟨[], es, rfl, rfl, rfl, none, rfl⟩ ?_ ?_
  · rintro r loc l ⟨pre, post, -, -, rfl, -⟩; rfl
  · rintro loc l ⟨pre, post, e1, e2, rfl, o, rfl⟩
    have : post = [] := List.map_eq_nil_iff.mp e2.symm
    subst this
    rw [List.append_nil] at e1 ⊢
    subst e1
    exact h
  · rintro v r loc l ⟨pre, post, e1, e2, rfl, o, rfl⟩
    obtain _ | ⟨e, post⟩ := post
    · cases e2
    cases e2
    have me : e ∈ es := e1 ▸ List.mem_append_right _ (List.mem_cons_self ..)
    obtain ⟨k, z⟩ := e
    obtain ⟨a, b, rfl⟩ := key_shape (hk _ me)
    have hn' : (((pre.filter fun e => hdN j e.1) ++ ([.str a, .int b], z) :: post).map (·.1)).Nodup := hn.sublist (e1 ▸ List.Sublist.map _ (List.Sublist.append_right List.filter_sublist _))
    have hl' : small ((pre.filter fun e => hdN j e.1) ++ ([.str a, .int b], z) :: post) := by
      have := List.length_filter_le (fun e : kvP => hdN j e.1) pre
      have e3 := congrArg List.length e1
      unfold small
      rw [List.length_append] at e3 ⊢
      omega
    have step : pre ++ ([.str a, .int b], z) :: post = (pre ++ [([.str a, .int b], z)]) ++ post := by rw [List.append_assoc]; rfl
    walk_at "ev"
    by_cases q : a = j
    · subst q
      refine rec_t (by show ((a == a) == true) = true; rw [beq_self_eq_true]; rfl) ?_
      walk_at "ev"
      refine rec_s (look_mem hn' (List.mem_append_right _ (List.mem_cons_self ..))) ?_
      walk_at "ev"
      refine ⟨pre ++ [([.str a, .int b], z)], post, e1.trans step, rfl, ?_, _, rfl⟩
      have e5 : (pre ++ [(([.str a, .int b] : List At), z)]).filter (fun e : kvP => hdN a e.1) = pre.filter (fun e : kvP => hdN a e.1) := by
        rw [List.filter_append, show [(([.str a, .int b] : List At), z)].filter (fun e : kvP => hdN a e.1) = [] from List.filter_cons_of_neg (by unfold hdN; rw [show ([.str a, .int b] : List At).head? = some (.str a) from rfl, decide_eq_true rfl]; decide), List.append_nil]
      have e6 := drop_mid hn'
      unfold dropK at e6
      rw [e5, e6]
      rfl
    · refine rec_f (by show ((a == j) == true) = false; rw [beq_eq_false_iff_ne.mpr q]; rfl) ?_
      walk_at "ev"
      refine ⟨pre ++ [([.str a, .int b], z)], post, e1.trans step, rfl, ?_, _, rfl⟩
      rw [List.filter_append, show [(([.str a, .int b] : List At), z)].filter (fun e : kvP => hdN j e.1) = [([.str a, .int b], z)] from List.filter_cons_of_pos (by unfold hdN; rw [show ([.str a, .int b] : List At).head? = some (.str a) from rfl, decide_eq_false fun x => q (by cases x; rfl)]; rfl), List.append_assoc]
      rfl
end
end Og
end

section
open PySem PySem.W PySem.Calls PyProof.Rows
set_option Elab.async false
set_option linter.unusedVariables false
set_option genSizeOf false
set_option genInjectivity false
namespace Og
local macro_rules | `(tactic| walk_at "sd") => `(tactic| first | rfl | exact Nat.le_of_ble_eq_true rfl | exact ⟨false, rfl⟩ | exact ⟨true, rfl⟩ | exact ⟨false, rfl, rfl⟩ | exact ⟨true, rfl, rfl⟩ | decide | assumption | exact Or.inr (by decide) | exact Or.inl (by decide) | omega | (refine And.intro ?_ ?_ <;> walk_at "sd"))
local macro_rules | `(tactic| walk_at "ev") => `(tactic| (conv => whnf); repeat (refine And.intro (by walk_at "sd") ?_; conv => whnf))
section
variable {cs : List Int} {m : Int} {es : List kvP} {rows : List (List At)} {kn : List kvP} {ic wi : List UInt8} {st : List (List At)} {ts : List kvP} {wl : List (List At)} {ti : List At} {as : List (List At)} {g : Led} {K : KV}
set_option maxHeartbeats 1000000
theorem L_firstW {a b : Nat} {k : List At} (hk : k ∈ keys) (h : K (.at (.int (frst k))) (Lw a b cs m es rows kn ic wi st ts wl ti as g)) : f_law_first [.obj 12, .tup k] (Lw a b cs m es rows kn ic wi st ts wl ti as g) K := by
  revert h
  refine key_cases (p := fun k => K (.at (.int (frst k))) (Lw a b cs m es rows kn ic wi st ts wl ti as g) → f_law_first [.obj 12, .tup k] (Lw a b cs m es rows kn ic wi st ts wl ti as g) K) hk ?_
  refine ⟨fun h => ?_, fun h => ?_, fun h => ?_, fun h => ?_, fun h => ?_, fun h => ?_, fun h => ?_, fun h => ?_, fun h => ?_, fun h => ?_, fun h => ?_, fun h => ?_, fun h => ?_, trivial⟩ <;> (walk_at "ev"; exact h)
theorem at_keys {z : Int} (a : 0 ≤ z) (b : z < 13) : ∃ k, keys[z.toNat]? = some k ∧ k ∈ keys := by
  have : z.toNat < keys.length := by show z.toNat < 13; omega
  exact ⟨_, List.getElem?_eq_getElem this, List.getElem_mem this⟩
theorem at_rgbs {z : Int} (a : 0 ≤ z) (b : z < 5) : ∃ c, rgbs[z.toNat]? = some (.int c) := by
  have : z = 0 ∨ z = 1 ∨ z = 2 ∨ z = 3 ∨ z = 4 := by omega
  rcases this with rfl | rfl | rfl | rfl | rfl <;> exact ⟨_, rfl⟩
def neK (k : List At) : List At → Bool := fun k' => !decide (k' = k)
theorem neK_drop {k : List At} {ts : List kvP} : (ts.filter fun e => neK k e.1) = dropK k ts := rfl
theorem coloured {w : Int} (hw : w = 0 ∨ w = 1 ∨ w = 2 ∨ w = 3 ∨ w = 4 ∨ w = 5) (hs : es.length ≤ 900) (s : Sm es ts) (hc : cs.length ≤ 900)
    (h : ∀ l (cs' : List Int) m' es' ts', cs'.length ≤ 900 → es'.length ≤ es.length + 1 → Sm es' ts' → Canon l (Lg cs' m' es' rows kn ic wi st ts' wl ti as []) → K (.at .none) l) :
    f_law_coloured [.obj 0, .obj 3, .obj 12, .at (.int w)] (Lg cs m es rows kn ic wi st ts wl ti as []) K := by
  have sd : DrawOk f_law_draw := draw_ok
  have hts : ts.length ≤ 900 := s.perm.length_eq ▸ hs
  have hts1 : small ts := Nat.le_trans hts (by decide)
  have kwt : ∀ e ∈ ts, e.1.all (ofKind false) = true := fun e m => key_word (s.sub' e m)
  have sL : ∀ (k : List At) (hk : k ∈ keys) (cs m es g K), K (.at (.int (frst k))) (Lg cs m es rows kn ic wi st ts wl ti as g) → f_law_first [.obj 12, .tup k] (Lg cs m es rows kn ic wi st ts wl ti as g) K := fun k hk cs m es g K h => L_first hk h
  have sW : ∀ (k : List At) (hk : k ∈ keys) (cs m es g K), K (.at (.int (frst k))) (Lw 16 15 cs m es rows kn ic wi st ts wl ti as g) → f_law_first [.obj 12, .tup k] (Lw 16 15 cs m es rows kn ic wi st ts wl ti as g) K := fun k hk cs m es g K h => L_firstW hk h
  have sP : ∀ (k : List At) (hk : k ∈ keys) (z cs m K), K (.at .none) (Lg cs m (putP k z es) rows kn ic wi st ts wl ti as []) → f_P_put [.obj 3, .tup k, .at (.int z)] (Lg cs m es rows kn ic wi st ts wl ti as []) K := fun k hk z cs m K h => P_put hk hs h
  have sB : ∀ (k : List At) (hk : k ∈ keys) (cs m K), K (.at .none) (Lg cs m (dropK k es) rows kn ic wi st ts wl ti as []) → f_P_put_back [.obj 3, .tup k] (Lg cs m es rows kn ic wi st ts wl ti as []) K := fun k hk cs m K h => P_put_back hk hs h
  have sA : ∀ (j : Nat) (cs m K), K (.at .none) (Lg cs m (es.filter fun e => hdN j e.1) rows kn ic wi st ts wl ti as [.list (es.map fun e => .tup e.1)]) → f_P_put_back_all [.obj 3, .at (.str j)] (Lg cs m es rows kn ic wi st ts wl ti as []) K := fun j cs m K h => put_back_all hs s.nodup s.sub h
  unfold f_law_coloured d_law_coloured
  generalize f_law_draw = q at sd ⊢
  generalize f_law_first = q1 at sL sW ⊢
  generalize f_P_put = q2 at sP ⊢
  generalize f_P_put_back = q3 at sB ⊢
  generalize f_P_put_back_all = q4 at sA ⊢
  walk_at "ev"
  refine sd 13 (by decide) hc fun z m' cs' z0 z1 hc' => ?_
  obtain ⟨k, ek, hk⟩ := at_keys z0 z1
  have hkw := key_word hk
  walk_at "ev"
  refine rec_s ek ?_
  have tDrop : ∀ e ∈ ts, kinds e.1 k := fun e m => ⟨false, kwt e m, hkw⟩
  have hmap : ((ts.filter fun e => neK k e.1).map fun e => (e.1, gV ts e.1)) = dropK k ts := map_g s.nodup' (neK k)
  have hsd : small (dropK k ts) := Nat.le_trans (List.length_filter_le _ _) hts1
  have lenP : ∀ z, (putP k z es).length ≤ es.length + 1 := fun z => by
    unfold putP
    split
    · exact Nat.le_trans (List.length_filter_le _ _) put_len
    · exact put_len
  have smE : ∀ z, z = frst k → Sm (putP k z es) (dropK k ts) := fun z e => by unfold putP; rw [if_pos e, drop_put s.nodup]; exact s.drop k
  have smN : ∀ z, z ≠ frst k → Sm (putP k z es) (put k z (dropK k ts)) := fun z e => by unfold putP; rw [if_neg e]; exact s.put hk z
  have lenD : ∀ p : kvP → Bool, (es.filter p).length ≤ es.length + 1 := fun p => Nat.le_succ_of_le (List.length_filter_le _ _)
  rcases hw with rfl | rfl | rfl | rfl | rfl | rfl
  · walk_at "ev"
    refine sd 5 (by decide) hc' fun z m' cs' z0 z1 hc' => ?_
    obtain ⟨c, ec⟩ := at_rgbs z0 z1
    walk_at "ev"
    refine rec_s ec ?_
    walk_at "ev"
    refine sP k hk c _ _ _ ?_
    walk_at "ev"
    refine ⟨neK k, gV ts, ⟨hts1, fun e he => ⟨kwt e he, ?_, fun _ => ?_⟩⟩, ?_⟩
    · walk_at "ev"
      exact ⟨tDrop e he, rfl⟩
    · have kw := kwt e he
      walk_at "ev"
      refine rec_s (look_mem s.nodup' he) ?_
      exact congrArg (fun z => AV.at (.int z)) (gV_mem s.nodup' he).symm
    rw [hmap]
    walk_at "ev"
    refine sW k hk _ _ _ [.dict false (dropK k ts)] _ ?_
    walk_at "ev"
    by_cases e : c = frst k
    · refine rec_f (by show (c != frst k) = false; rw [e]; exact bne_self_eq_false _) ?_
      exact h (Lw 16 15 _ _ _ _ _ _ _ _ _ _ _ _ [.dict false (dropK k ts)]) _ _ (putP k c es) (dropK k ts) hc' (lenP c) (smE c e) (canonW (by decide) rfl rfl)
    · refine rec_t (bne_iff_ne.mpr e) ?_
      walk_at "ev"
      exact h (Lw 16 15 _ _ _ _ _ _ _ _ _ _ _ _ [.dict false (put k c (dropK k ts))]) _ _ (putP k c es) (put k c (dropK k ts)) hc' (lenP c) (smN c e) (canonW (by decide) rfl rfl)
  · walk_at "ev"
    refine sd 5 (by decide) hc' fun z m' cs' z0 z1 hc' => ?_
    obtain ⟨c, ec⟩ := at_rgbs z0 z1
    walk_at "ev"
    refine rec_s ec ?_
    walk_at "ev"
    refine sP k hk c _ _ _ ?_
    walk_at "ev"
    refine ⟨neK k, gV ts, ⟨hts1, fun e he => ⟨kwt e he, ?_, fun _ => ?_⟩⟩, ?_⟩
    · walk_at "ev"
      exact ⟨tDrop e he, rfl⟩
    · have kw := kwt e he
      walk_at "ev"
      refine rec_s (look_mem s.nodup' he) ?_
      exact congrArg (fun z => AV.at (.int z)) (gV_mem s.nodup' he).symm
    rw [hmap]
    walk_at "ev"
    refine sW k hk _ _ _ [.dict false (dropK k ts)] _ ?_
    walk_at "ev"
    by_cases e : c = frst k
    · refine rec_f (by show (c != frst k) = false; rw [e]; exact bne_self_eq_false _) ?_
      exact h (Lw 16 15 _ _ _ _ _ _ _ _ _ _ _ _ [.dict false (dropK k ts)]) _ _ (putP k c es) (dropK k ts) hc' (lenP c) (smE c e) (canonW (by decide) rfl rfl)
    · refine rec_t (bne_iff_ne.mpr e) ?_
      walk_at "ev"
      exact h (Lw 16 15 _ _ _ _ _ _ _ _ _ _ _ _ [.dict false (put k c (dropK k ts))]) _ _ (putP k c es) (put k c (dropK k ts)) hc' (lenP c) (smN c e) (canonW (by decide) rfl rfl)
  · walk_at "ev"
    refine sd 5 (by decide) hc' fun z m' cs' z0 z1 hc' => ?_
    obtain ⟨c, ec⟩ := at_rgbs z0 z1
    walk_at "ev"
    refine rec_s ec ?_
    walk_at "ev"
    refine sP k hk c _ _ _ ?_
    walk_at "ev"
    refine ⟨neK k, gV ts, ⟨hts1, fun e he => ⟨kwt e he, ?_, fun _ => ?_⟩⟩, ?_⟩
    · walk_at "ev"
      exact ⟨tDrop e he, rfl⟩
    · have kw := kwt e he
      walk_at "ev"
      refine rec_s (look_mem s.nodup' he) ?_
      exact congrArg (fun z => AV.at (.int z)) (gV_mem s.nodup' he).symm
    rw [hmap]
    walk_at "ev"
    refine sW k hk _ _ _ [.dict false (dropK k ts)] _ ?_
    walk_at "ev"
    by_cases e : c = frst k
    · refine rec_f (by show (c != frst k) = false; rw [e]; exact bne_self_eq_false _) ?_
      exact h (Lw 16 15 _ _ _ _ _ _ _ _ _ _ _ _ [.dict false (dropK k ts)]) _ _ (putP k c es) (dropK k ts) hc' (lenP c) (smE c e) (canonW (by decide) rfl rfl)
    · refine rec_t (bne_iff_ne.mpr e) ?_
      walk_at "ev"
      exact h (Lw 16 15 _ _ _ _ _ _ _ _ _ _ _ _ [.dict false (put k c (dropK k ts))]) _ _ (putP k c es) (put k c (dropK k ts)) hc' (lenP c) (smN c e) (canonW (by decide) rfl rfl)
  · walk_at "ev"
    refine sB k hk _ _ _ ?_
    walk_at "ev"
    refine ⟨neK k, gV ts, ⟨hts1, fun e he => ⟨kwt e he, ?_, fun _ => ?_⟩⟩, ?_⟩
    · walk_at "ev"
      exact ⟨tDrop e he, rfl⟩
    · have kw := kwt e he
      walk_at "ev"
      refine rec_s (look_mem s.nodup' he) ?_
      exact congrArg (fun z => AV.at (.int z)) (gV_mem s.nodup' he).symm
    rw [hmap]
    walk_at "ev"
    exact h (Lw 16 15 _ _ _ _ _ _ _ _ _ _ _ _ [.dict false (dropK k ts)]) _ _ (dropK k es) (dropK k ts) hc' (lenD _) (s.drop k) (canonW (by decide) rfl rfl)
  · obtain ⟨a, b, rfl⟩ := key_shape hk
    have hmap : ((ts.filter fun e => hdN a e.1).map fun e => (e.1, gV ts e.1)) = ts.filter fun e => hdN a e.1 := map_g s.nodup' (hdN a)
    walk_at "ev"
    refine sA a _ _ _ ?_
    walk_at "ev"
    refine ⟨hdN a, gV ts, ⟨hts1, fun e he => ⟨kwt e he, ?_, fun _ => ?_⟩⟩, ?_⟩
    · obtain ⟨k', z⟩ := e
      obtain ⟨a', b', rfl⟩ := key_shape (s.sub' _ he)
      walk_at "ev"
      show ((a' == a) == false) = !decide (some (At.str a') = some (.str a))
      by_cases e : a' = a
      · subst e; rw [beq_self_eq_true, decide_eq_true rfl]; rfl
      · rw [beq_eq_false_iff_ne.mpr e, decide_eq_false fun x => e (by cases x; rfl)]; rfl
    · have kw := kwt e he
      walk_at "ev"
      refine rec_s (look_mem s.nodup' he) ?_
      exact congrArg (fun z => AV.at (.int z)) (gV_mem s.nodup' he).symm
    rw [hmap]
    walk_at "ev"
    exact h (Lw 17 15 _ _ _ _ _ _ _ _ _ _ _ _ [.list _, .dict false (ts.filter fun e => hdN a e.1)]) _ _ (es.filter fun e => hdN a e.1) (ts.filter fun e => hdN a e.1) hc' (lenD _) (s.filter _) (canonW (by decide) rfl rfl)
  · walk_at "ev"
    refine sL k hk _ _ _ [] _ ?_
    walk_at "ev"
    refine sP k hk (frst k) _ _ _ ?_
    walk_at "ev"
    refine ⟨neK k, gV ts, ⟨hts1, fun e he => ⟨kwt e he, ?_, fun _ => ?_⟩⟩, ?_⟩
    · walk_at "ev"
      exact ⟨tDrop e he, rfl⟩
    · have kw := kwt e he
      walk_at "ev"
      refine rec_s (look_mem s.nodup' he) ?_
      exact congrArg (fun z => AV.at (.int z)) (gV_mem s.nodup' he).symm
    rw [hmap]
    walk_at "ev"
    refine sW k hk _ _ _ [.dict false (dropK k ts)] _ ?_
    walk_at "ev"
    refine rec_f (bne_self_eq_false (frst k)) ?_
    exact h (Lw 16 15 _ _ _ _ _ _ _ _ _ _ _ _ [.dict false (dropK k ts)]) _ _ (putP k (frst k) es) (dropK k ts) hc' (lenP _) (smE _ rfl) (canonW (by decide) rfl rfl)
end
end Og
end

section
open PySem PySem.W PySem.Calls PyProof.Rows
set_option Elab.async false
set_option linter.unusedVariables false
set_option genSizeOf false
set_option genInjectivity false
namespace Og
local macro_rules | `(tactic| walk_at "sd") => `(tactic| first | rfl | exact Nat.le_of_ble_eq_true rfl | exact ⟨false, rfl⟩ | exact ⟨true, rfl⟩ | exact ⟨false, rfl, rfl⟩ | exact ⟨true, rfl, rfl⟩ | decide | assumption | exact Or.inr (by decide) | exact Or.inl (by decide) | omega | (refine And.intro ?_ ?_ <;> walk_at "sd"))
local macro_rules | `(tactic| walk_at "ev") => `(tactic| (conv => whnf); repeat (refine And.intro (by walk_at "sd") ?_; conv => whnf))
section
variable {cs : List Int} {m : Int} {es : List kvP} {rows : List (List At)} {kn : List kvP} {ic wi : List UInt8} {st : List (List At)} {ts : List kvP} {wl : List (List At)} {ti : List At} {as : List (List At)} {g : Led} {K : KV}
set_option maxHeartbeats 1000000
theorem canonG : Canon (Lg cs m es rows kn ic wi st ts wl ti as g) (Lg cs m es rows kn ic wi st ts wl ti as []) := canonW (a := 13) (b := 15) (t0 := ts) (a0 := as) (g := g) (by decide) rfl rfl
def idx (p : Bp) (ls : List Bp) : Option Nat := ls.findIdx? fun q => decide (q = p)
def knF : Nat → List Bp → List kvP
  | _, [] => []
  | n, q :: r => (tt q, (n : Int) + 1) :: knF (n + 1) r
def addL (p : Bp) (ls : List Bp) : List Bp := if p ∈ ls ∨ 3 ≤ ls.length then ls else ls ++ [p]
def numOf (p : Bp) (ls : List Bp) : Int := ((idx p ls).map fun (i : Nat) => (i : Int) + 1).getD 0
theorem tt_inj {p q : Bp} : tt p = tt q ↔ p = q := ⟨fun e => by cases p; cases q; cases e; rfl, fun e => e ▸ rfl⟩
theorem look_kn {p : Bp} {ls : List Bp} : ∀ {n : Nat}, look (knF n ls) (tt p) = (idx p ls).map fun i => (tt p, ((n + i : Nat) : Int) + 1) := by
  induction ls with
  | nil => intro n; rfl
  | cons q r ih =>
    intro n
    unfold knF look idx
    rw [List.find?_cons, List.findIdx?_cons]
    by_cases h : q = p
    · rw [decide_eq_true (tt_inj.mpr h), decide_eq_true h, h]; rfl
    · rw [decide_eq_false fun z => h (tt_inj.mp z), decide_eq_false h]
      show look (knF (n + 1) r) (tt p) = _
      rw [ih]
      unfold idx
      rw [if_neg (by decide), Option.map_map]
      congr 1
      funext i
      show (tt p, ((n + 1 + i : Nat) : Int) + 1) = (tt p, ((n + (i + 1) : Nat) : Int) + 1)
      rw [Nat.add_assoc, Nat.add_comm 1 i]
theorem idx_none {p : Bp} {ls : List Bp} (h : p ∉ ls) : idx p ls = none := List.findIdx?_eq_none_iff.mpr fun q m => decide_eq_false fun e => h (e ▸ m)
theorem idx_some {p : Bp} {ls : List Bp} (h : p ∈ ls) : ∃ i, idx p ls = some i := by
  cases e : idx p ls with
  | some i => exact ⟨i, rfl⟩
  | none => exact absurd (List.findIdx?_eq_none_iff.mp e p h) (by rw [decide_eq_true rfl]; decide)
theorem idx_app {p : Bp} {ls : List Bp} (h : p ∉ ls) : idx p (ls ++ [p]) = some ls.length := by
  induction ls with
  | nil => unfold idx; rw [List.nil_append, List.findIdx?_cons, decide_eq_true rfl]; rfl
  | cons q r ih =>
    unfold idx
    rw [List.cons_append, List.findIdx?_cons, decide_eq_false fun e : q = p => h (e ▸ List.mem_cons_self ..), if_neg (by decide)]
    have := ih fun m => h (List.mem_cons_of_mem _ m)
    unfold idx at this
    rw [this]; rfl
theorem knF_app {p : Bp} {ls : List Bp} : ∀ {n : Nat}, knF n (ls ++ [p]) = knF n ls ++ [(tt p, ((n + ls.length : Nat) : Int) + 1)] := by
  induction ls with
  | nil => intro n; rfl
  | cons q r ih =>
    intro n
    show (tt q, (n : Int) + 1) :: knF (n + 1) (r ++ [p]) = _
    rw [ih]
    show _ = (tt q, (n : Int) + 1) :: (knF (n + 1) r ++ [(tt p, ((n + (r.length + 1) : Nat) : Int) + 1)])
    rw [Nat.add_assoc, Nat.add_comm 1]
theorem knF_len {ls : List Bp} : ∀ {n : Nat}, (knF n ls).length = ls.length := by
  induction ls with
  | nil => intro n; rfl
  | cons q r ih => intro n; exact congrArg Nat.succ ih
theorem put_kn {p : Bp} {ls : List Bp} {n : Nat} {z : Int} (h : p ∉ ls) : put (tt p) z (knF n ls) = knF n ls ++ [(tt p, z)] := put_new fun m => by
  obtain ⟨e, m, q⟩ := List.mem_map.mp m
  have : look (knF n ls) (tt p) = none := by rw [look_kn, idx_none h]; rfl
  have := List.find?_eq_none.mp this e m
  rw [decide_eq_true q] at this; exact this rfl
theorem len_tt {ls : List Bp} : ((ls.map tt).map AV.tup).length = ls.length := by rw [List.length_map, List.length_map]
theorem small_tt {ls : List Bp} (h : ls.length ≤ 10) : small ((ls.map tt).map AV.tup) := by unfold small; rw [len_tt]; omega
theorem L_num {p : Bp} {ls : List Bp} (hl : ls.length ≤ 3) (h : K (.at (.int (numOf p (addL p ls)))) (Lg cs m es ((addL p ls).map tt) (knF 0 (addL p ls)) ic wi st ts wl ti as g)) :
    f_L_number_of_link [.obj 6, .at (.bytes p.1), .at (.bytes p.2), .at (.int 3)] (Lg cs m es (ls.map tt) (knF 0 ls) ic wi st ts wl ti as g) K := by
  have hs := small_tt (Nat.le_trans hl (by decide))
  have hs2 : small (((ls.map tt).map AV.tup) ++ [.tup (tt p)]) := by unfold small; rw [List.length_append, len_tt]; show ls.length + 1 ≤ 1000; omega
  have hs3 : small (knF 0 ls) := by unfold small; rw [knF_len]; omega
  have hk : look (knF 0 ls) (tt p) = (idx p ls).map fun i => (tt p, ((0 + i : Nat) : Int) + 1) := look_kn
  by_cases hp : p ∈ ls
  · obtain ⟨i, hi⟩ := idx_some hp
    have e1 : addL p ls = ls := if_pos (.inl hp)
    rw [e1] at h
    rw [hi] at hk
    unfold numOf at h
    rw [hi] at h
    walk_at "ev"
    refine rec_f (b := (look (knF 0 ls) (tt p)).isSome == false) (by rw [hk]; rfl) ?_
    walk_at "ev"
    refine rec_s hk ?_
    show K (.at (.int (((0 + i : Nat) : Int) + 1))) _
    rw [Nat.zero_add]
    exact h
  · rw [idx_none hp] at hk
    walk_at "ev"
    refine rec_t (b := (look (knF 0 ls) (tt p)).isSome == false) (by rw [hk]; rfl) ?_
    walk_at "ev"
    by_cases h3 : 3 ≤ ls.length
    · have e1 : addL p ls = ls := if_pos (.inr h3)
      rw [e1] at h
      unfold numOf at h
      rw [idx_none hp] at h
      refine rec_t (b := decide ((3 : Int) ≤ ((((ls.map tt).map AV.tup).length : Nat) : Int))) (decide_eq_true (by rw [len_tt]; omega)) ?_
      exact h
    · have e1 : addL p ls = ls ++ [p] := if_neg fun z => z.elim hp h3
      rw [e1] at h
      unfold numOf at h
      rw [idx_app hp, knF_app, Nat.zero_add, List.map_append] at h
      refine rec_f (b := decide ((3 : Int) ≤ ((((ls.map tt).map AV.tup).length : Nat) : Int))) (decide_eq_false (by rw [len_tt]; omega)) ?_
      walk_at "ev"
      have hz : ((List.map AV.tup (List.map tt ls) ++ [AV.tup [At.bytes p.fst, At.bytes p.snd]]).length : Int) = ls.length + 1 := by rw [List.length_append, len_tt]; rfl
      have e2 : put [At.bytes p.fst, At.bytes p.snd] ((ls.length : Int) + 1) (knF 0 ls) = knF 0 ls ++ [(tt p, (ls.length : Int) + 1)] := put_kn hp
      rw [hz]
      refine rec_s (x := (tt p, (ls.length : Int) + 1)) (look_put.trans (if_pos rfl)) ?_
      have e3 : List.map AV.tup (List.map tt ls) ++ [AV.tup [At.bytes p.fst, At.bytes p.snd]] = (List.map tt ls ++ List.map tt [p]).map AV.tup := by rw [List.map_append]; rfl
      rw [e2, e3]
      exact h
theorem nn (p : Bp) : (!decide ([At.bytes p.1, At.bytes p.2] = tt p)) = false := by rw [decide_eq_true (show [At.bytes p.1, At.bytes p.2] = tt p from rfl)]; rfl
theorem likes_tt {p : Bp} {ls : List Bp} : likes ((ls.map tt).map AV.tup) (.tup (tt p)) := ⟨true, by
  rw [List.all_eq_true]
  intro y m
  obtain ⟨x, m1, rfl⟩ := List.mem_map.mp m
  obtain ⟨q, m2, rfl⟩ := List.mem_map.mp m1
  rfl⟩
theorem same_tt {p q : Bp} : same (.tup (tt q)) (.tup (tt p)) = decide (q = p) := decide_eq_decide.mpr tt_inj
theorem any_tt {p : Bp} {ls : List Bp} : (((ls.map tt).map AV.tup).any fun y => same y (.tup (tt p))) = decide (p ∈ ls) := by
  rw [Bool.eq_iff_iff, List.any_eq_true, decide_eq_true_iff]
  refine ⟨fun ⟨y, m, e⟩ => ?_, fun m => ⟨_, List.mem_map_of_mem (List.mem_map_of_mem m), by rw [same_tt, decide_eq_true rfl]⟩⟩
  obtain ⟨x, m1, rfl⟩ := List.mem_map.mp m
  obtain ⟨q, m2, rfl⟩ := List.mem_map.mp m1
  rw [same_tt, decide_eq_true_iff] at e
  exact e ▸ m2
theorem find_tt {p : Bp} {ls : List Bp} : (((ls.map tt).map AV.tup).findIdx? fun y => same y (.tup (tt p))) = idx p ls := by
  unfold idx
  induction ls with
  | nil => rfl
  | cons q r ih => rw [List.map_cons, List.map_cons, List.findIdx?_cons, List.findIdx?_cons, same_tt, ih]
theorem at_ids {z : Int} (a : 0 ≤ z) (b : z < 3) : ∃ c, ids[z.toNat]? = some (.bytes c) := by
  rcases three a b with rfl | rfl | rfl <;> exact ⟨_, rfl⟩
theorem at_adrs {z : Int} (a : 0 ≤ z) (b : z < 3) : ∃ c, adrs[z.toNat]? = some (.bytes c) := by
  rcases three a b with rfl | rfl | rfl <;> exact ⟨_, rfl⟩
theorem addL_len {p : Bp} {ls : List Bp} (h : ls.length ≤ 3) : (addL p ls).length ≤ 3 := by
  unfold addL
  split
  · exact h
  · next q => rw [List.length_append]; show ls.length + 1 ≤ 3; have : ¬ 3 ≤ ls.length := fun z => q (.inr z); omega
/-- the links, told one by one -/
def linkBody : XS := sSeq (sIf (tVal (x2 fNeT (xTup (xlCons (xM (mInst 180 f_L_word) (xVar 1) (xlCons (xVar 5) xlNil)) (xlCons (xM (mInst 180 f_L_address) (xVar 1) (xlCons (xVar 5) xlNil)) xlNil))) (xVar 6))) (sSeq (sRet (xConst (.at (.bool false)))) sNil) sNil) sNil
theorem links_told {L : List Bp} (hL : L.length ≤ 3) {i : Nat} {v : List At} {o1 o2 o3 o4 o5 o6 : Option AV} {R : KV} {J : Loc → Led → Prop} (hv : ([tt ([], [])] ++ L.map tt ++ [tt ([], [])])[i]? = some v)
    (h : ∀ o5 o6, J [o1, some (.obj 6), o2, o3, o4, o5, o6] (Lg cs m es (L.map tt) kn ic wi st ts wl ti as g)) :
    bd2 5 6 (.two i v) [o1, some (.obj 6), o2, o3, o4, o5, o6] fun loc => linkBody loc (Lg cs m es (L.map tt) kn ic wi st ts wl ti as g) R J := by
  rcases L with _ | ⟨a, _ | ⟨b, _ | ⟨d, _ | ⟨e, L⟩⟩⟩⟩
  · rcases i with _ | _ | i
    · cases hv; walk_at "ev"; exact h _ _
    · cases hv; walk_at "ev"; exact h _ _
    · cases hv
  · rcases i with _ | _ | _ | i
    · cases hv; walk_at "ev"; exact h _ _
    · cases hv; walk_at "ev"; refine rec_f (nn _) ?_; walk_at "ev"; exact h _ _
    · cases hv; walk_at "ev"; exact h _ _
    · cases hv
  · rcases i with _ | _ | _ | _ | i
    · cases hv; walk_at "ev"; exact h _ _
    · cases hv; walk_at "ev"; refine rec_f (nn _) ?_; walk_at "ev"; exact h _ _
    · cases hv; walk_at "ev"; refine rec_f (nn _) ?_; walk_at "ev"; exact h _ _
    · cases hv; walk_at "ev"; exact h _ _
    · cases hv
  · rcases i with _ | _ | _ | _ | _ | i
    · cases hv; walk_at "ev"; exact h _ _
    · cases hv; walk_at "ev"; refine rec_f (nn _) ?_; walk_at "ev"; exact h _ _
    · cases hv; walk_at "ev"; refine rec_f (nn _) ?_; walk_at "ev"; exact h _ _
    · cases hv; walk_at "ev"; refine rec_f (nn _) ?_; walk_at "ev"; exact h _ _
    · cases hv; walk_at "ev"; exact h _ _
    · cases hv
  · exact absurd hL (by simp)
def linkLoop : XS := (sSeq (sFor (xsE (x2 fAddL (x2 fAddL (xList (xlCons (xTup (xlCons (xConst (.at (.bytes []))) (xlCons (xConst (.at (.bytes []))) xlNil))) xlNil)) (x2 fItem (xVar 2) (xConst (.at (.str 14))))) (xList (xlCons (xTup (xlCons (xConst (.at (.bytes []))) (xlCons (xConst (.at (.bytes []))) xlNil))) xlNil)))) (bd2 5 6) linkBody) (sSeq (sRet (xConst (.at (.bool true)))) sNil))
def linkRest : XS := (sSeq (sSet 4 (xIf (tVal (x2 (fInL true) (xVar 3) (x2 fItem (xVar 2) (xConst (.at (.str 14)))))) (x2 (fI fun i j K => K (.int (i + j))) (xM (mList (fl2 fIndex)) (x2 fItem (xVar 2) (xConst (.at (.str 14)))) (xlCons (xVar 3) xlNil)) (xConst (.at (.int 1)))) (xConst (.at (.int 0))))) (sSeq (sIf (tVal (x2 (fC fun i j => i != j) (xM (mInst 180 f_L_number_of_link) (xVar 1) (xlCons (x2 fItem (xVar 3) (xConst (.at (.int 0)))) (xlCons (x2 fItem (xVar 3) (xConst (.at (.int 1)))) (xlCons (xConst (.at (.int 3))) xlNil)))) (xVar 4))) (sSeq (sRet (xConst (.at (.bool false)))) sNil) sNil) linkLoop))
theorem link_den : d_law_link_right = sSeq (sSet 3 (xTup (xlCons (x2 fItem (xConst (.tup ids)) (xCall f_law_draw (xlCons (xVar 0) (xlCons (xConst (.at (.int 3))) xlNil)))) (xlCons (x2 fItem (xConst (.tup adrs)) (xCall f_law_draw (xlCons (xVar 0) (xlCons (xConst (.at (.int 3))) xlNil)))) xlNil)))) (sSeq (sIf (tAnd (tVal (x2 (fInL false) (xVar 3) (x2 fItem (xVar 2) (xConst (.at (.str 14)))))) (tVal (x2 (fC fun i j => decide (i < j)) (xCall (fl1 fLen) (xlCons (x2 fItem (xVar 2) (xConst (.at (.str 14)))) xlNil)) (xConst (.at (.int 3)))))) (sSeq (sExpr (xM (mList (fl2 fAppend)) (x2 fItem (xVar 2) (xConst (.at (.str 14)))) (xlCons (xVar 3) xlNil))) sNil) sNil) linkRest) := rfl
theorem link_loop {p : Bp} {L : List Bp} {J : Loc → Led → Prop} {d : Int} (hL : L.length ≤ 3)
    (h : ∀ g, K (.at (.bool true)) (Lg cs m es (L.map tt) (knF 0 L) ic wi st ts (L.map tt) ti as g)) :
    linkLoop [some (.obj 0), some (.obj 6), some (.obj 12), some (.tup (tt p)), some (.at (.int d)), none, none] (Lg cs m es (L.map tt) (knF 0 L) ic wi st ts (L.map tt) ti as []) K J := by
  have sm := small_tt (Nat.le_trans hL (by decide))
  have told : ∀ (g : Led) (i : Nat) (v : List At) (o4 o5 o6 : Option AV) (J : Loc → Led → Prop), ([tt ([], [])] ++ L.map tt ++ [tt ([], [])])[i]? = some v → (∀ o5 o6, J [some (.obj 0), some (.obj 6), some (.obj 12), some (.tup (tt p)), o4, o5, o6] (Lg cs m es (L.map tt) (knF 0 L) ic wi st ts (L.map tt) ti as g)) →
    bd2 5 6 (.two i v) [some (.obj 0), some (.obj 6), some (.obj 12), some (.tup (tt p)), o4, o5, o6] fun loc => linkBody loc (Lg cs m es (L.map tt) (knF 0 L) ic wi st ts (L.map tt) ti as g) K J := fun g i v o4 o5 o6 J hv h => links_told hL hv h
  unfold linkLoop
  generalize linkBody = lb at told ⊢
  walk_at "ev"
  walk_at "ev"
  have sm1 : small ([AV.tup [At.bytes [], At.bytes []]] ++ List.map AV.tup (List.map tt L)) := by unfold small; rw [List.length_append, len_tt]; show 1 + L.length ≤ 1000; omega
  refine And.intro ⟨sm1, Nat.le_of_ble_eq_true rfl⟩ ?_
  walk_at "ev"
  refine loop_E ([tt ([], [])] ++ L.map tt ++ [tt ([], [])]) (fun i loc l => i ≤ ([tt ([], [])] ++ L.map tt ++ [tt ([], [])]).length ∧ l = Lg cs m es (L.map tt) (knF 0 L) ic wi st ts (L.map tt) ti as [.list [.tup (tt ([], []))], .list ([.tup (tt ([], []))] ++ (L.map tt).map .tup), .list [.tup (tt ([], []))], .list (([tt ([], [])] ++ L.map tt ++ [tt ([], [])]).map .tup)] ∧ ∃ o5 o6, loc = [some (.obj 0), some (.obj 6), some (.obj 12), some (.tup (tt p)), some (.at (.int d)), o5, o6]) ?_ ?_ ?_ ?_
  · rintro i loc l ⟨hi, rfl, -⟩
    exact ⟨hi, rfl⟩
  · refine ⟨Nat.zero_le _, ?_, none, none, rfl⟩
    rw [List.map_append, List.map_append]
    rfl
  · rintro loc l ⟨-, rfl, o5, o6, rfl⟩
    walk_at "ev"
    exact h _
  · rintro i v loc l hv ⟨hi, rfl, o5, o6, rfl⟩
    refine told _ i v _ o5 o6 _ hv fun o5 o6 => ⟨?_, rfl, o5, o6, rfl⟩
    exact (List.getElem?_eq_some_iff.mp hv).1
theorem link_tail {p : Bp} {ls L : List Bp} {J : Loc → Led → Prop} (hl : ls.length ≤ 3) (eL : addL p ls = L)
    (h : ∀ g, K (.at (.bool true)) (Lg cs m es (L.map tt) (knF 0 L) ic wi st ts (L.map tt) ti as g)) :
    linkRest [some (.obj 0), some (.obj 6), some (.obj 12), some (.tup (tt p)), none, none, none] (Lg cs m es (ls.map tt) (knF 0 ls) ic wi st ts (L.map tt) ti as []) K J := by
  have hL : L.length ≤ 3 := eL ▸ addL_len hl
  have sN : ∀ (K : KV), K (.at (.int (numOf p L))) (Lg cs m es (L.map tt) (knF 0 L) ic wi st ts (L.map tt) ti as []) →
    f_L_number_of_link [.obj 6, .at (.bytes p.1), .at (.bytes p.2), .at (.int 3)] (Lg cs m es (ls.map tt) (knF 0 ls) ic wi st ts (L.map tt) ti as []) K := fun K h => L_num hl (by rw [eL]; exact h)
  have sm := small_tt (Nat.le_trans hL (by decide))
  have fin : ∀ (d : Int) J, linkLoop [some (.obj 0), some (.obj 6), some (.obj 12), some (.tup (tt p)), some (.at (.int d)), none, none] (Lg cs m es (L.map tt) (knF 0 L) ic wi st ts (L.map tt) ti as []) K J := fun d J => link_loop hL h
  unfold linkRest
  generalize f_L_number_of_link = q1 at sN ⊢
  generalize linkLoop = q2 at fin ⊢
  by_cases hp : p ∈ L
  · obtain ⟨i, hi⟩ := idx_some hp
    walk_at "ev"
    refine And.intro likes_tt ?_
    walk_at "ev"
    refine rec_t (b := (List.any ((L.map tt).map AV.tup) fun y => same y (.tup (tt p))) == true) (by rw [any_tt, decide_eq_true hp]; rfl) ?_
    walk_at "ev"
    refine And.intro ⟨likes_tt, sm⟩ ?_
    walk_at "ev"
    refine rec_s (find_tt.trans hi) ?_
    walk_at "ev"
    refine sN _ ?_
    walk_at "ev"
    refine rec_f (b := numOf p L != (i : Int) + 1) (by unfold numOf; rw [hi]; exact bne_self_eq_false _) ?_
    walk_at "ev"
    exact fin _ _
  · have hi := idx_none hp
    walk_at "ev"
    refine And.intro likes_tt ?_
    walk_at "ev"
    refine rec_f (b := (List.any ((L.map tt).map AV.tup) fun y => same y (.tup (tt p))) == true) (by rw [any_tt, decide_eq_false hp]; rfl) ?_
    walk_at "ev"
    refine sN _ ?_
    walk_at "ev"
    refine rec_f (b := numOf p L != 0) (by unfold numOf; rw [hi]; rfl) ?_
    walk_at "ev"
    exact fin _ _
theorem link_right {ls : List Bp} (hl : ls.length ≤ 3) (hc : cs.length ≤ 900)
    (h : ∀ (cs' : List Int) m' (ls' : List Bp) g, cs'.length ≤ 900 → ls'.length ≤ 3 → K (.at (.bool true)) (Lg cs' m' es (ls'.map tt) (knF 0 ls') ic wi st ts (ls'.map tt) ti as g)) :
    f_law_link_right [.obj 0, .obj 6, .obj 12] (Lg cs m es (ls.map tt) (knF 0 ls) ic wi st ts (ls.map tt) ti as []) K := by
  have sd : DrawOk f_law_draw := draw_ok
  have tail : ∀ (p : Bp) (L : List Bp) (eL : addL p ls = L) (cs m) (J : Loc → Led → Prop), cs.length ≤ 900 → linkRest [some (.obj 0), some (.obj 6), some (.obj 12), some (.tup (tt p)), none, none, none] (Lg cs m es (ls.map tt) (knF 0 ls) ic wi st ts (L.map tt) ti as []) K J :=
    fun p L eL cs m J hc => link_tail hl eL fun g => h cs m L g hc (eL ▸ addL_len hl)
  have sm := small_tt (Nat.le_trans hl (by decide))
  unfold f_law_link_right
  rw [link_den]
  generalize f_law_draw = q at sd ⊢
  generalize linkRest = rst at tail ⊢
  walk_at "ev"
  refine sd 3 (by decide) hc fun z m' cs' z0 z1 hc' => ?_
  obtain ⟨w, ew⟩ := at_ids z0 z1
  walk_at "ev"
  refine rec_s ew ?_
  walk_at "ev"
  refine sd 3 (by decide) hc' fun z m' cs' z0 z1 hc' => ?_
  obtain ⟨a, ea⟩ := at_adrs z0 z1
  walk_at "ev"
  refine rec_s ea ?_
  walk_at "ev"
  refine And.intro (likes_tt (p := (w, a))) ?_
  walk_at "ev"
  by_cases hp : (w, a) ∈ ls
  · refine rec_f (b := (List.any ((ls.map tt).map AV.tup) fun y => same y (.tup (tt (w, a)))) == false) (by rw [any_tt, decide_eq_true hp]; rfl) ?_
    walk_at "ev"
    exact tail (w, a) ls (if_pos (.inl hp)) _ _ _ hc'
  · refine rec_t (b := (List.any ((ls.map tt).map AV.tup) fun y => same y (.tup (tt (w, a)))) == false) (by rw [any_tt, decide_eq_false hp]; rfl) ?_
    walk_at "ev"
    by_cases h3 : 3 ≤ ls.length
    · refine rec_f (b := decide (((((ls.map tt).map AV.tup).length : Nat) : Int) < 3)) (decide_eq_false (by rw [len_tt]; omega)) ?_
      walk_at "ev"
      exact tail (w, a) ls (if_pos (.inr h3)) _ _ _ hc'
    · refine rec_t (b := decide (((((ls.map tt).map AV.tup).length : Nat) : Int) < 3)) (decide_eq_true (by rw [len_tt]; omega)) ?_
      walk_at "ev"
      have e1 : addL (w, a) ls = ls ++ [(w, a)] := if_neg fun z => z.elim hp h3
      have := tail (w, a) (ls ++ [(w, a)]) e1 cs' m' (fun x l => K (.at .none) l) hc'
      rw [List.map_append] at this
      unfold Lg at this
      rw [List.map_append (f := AV.tup)] at this
      exact this
end
end Og
end

section
open PySem PySem.W PySem.Calls PyProof.Rows
set_option Elab.async false
set_option linter.unusedVariables false
set_option genSizeOf false
set_option genInjectivity false
namespace Og
local macro_rules | `(tactic| walk_at "sd") => `(tactic| first | assumption | rfl | exact Nat.le_of_ble_eq_true rfl | exact ⟨false, rfl⟩ | exact ⟨true, rfl⟩ | exact ⟨false, rfl, rfl⟩ | exact ⟨true, rfl, rfl⟩ | decide | assumption | exact Or.inr (by decide) | exact Or.inl (by decide) | omega | (refine And.intro ?_ ?_ <;> walk_at "sd"))
local macro_rules | `(tactic| walk_at "ev") => `(tactic| (conv => whnf); repeat (refine And.intro (by walk_at "sd") ?_; conv => whnf))
section
variable {cs : List Int} {m : Int} {es : List kvP} {rows : List (List At)} {kn : List kvP} {ic wi : List UInt8} {st : List (List At)} {ts : List kvP} {wl : List (List At)} {ti : List At} {as : List (List At)} {g : Led} {K : KV}
set_option maxHeartbeats 1000000
def keysB : XS := (sSeq (sFor (xsY (xIf (tVal (x2 fNeY (xVar 4) (xConst (.at (.bytes []))))) (xVar 4) (xConst (.at (.bytes [115, 48]))))) (bd1 5) (sSeq (sIf (tAnd (tVal (x2 fInY (xVar 5) (xConst (.at (.bytes [99, 112, 113, 115, 48, 49, 50, 51, 52, 53, 54, 55]))))) (tVal (x2 (fInL false) (xBytes (xlCons (xVar 5) xlNil)) (xVar 2)))) (sSeq (sExpr (xM (mList (fl2 fAppend)) (xVar 2) (xlCons (xBytes (xlCons (xVar 5) xlNil)) xlNil))) sNil) sNil) sNil)) (sSeq (sRet (x2 fEqL (xCall (fl1 fList) (xlCons (xCall f_osc_selections (xlCons (xVar 4) xlNil)) xlNil)) (xVar 2))) sNil))
def keysA : XS := (sSeq (sSet 4 (xCall (fl1 fBytes) (xlCons (xLC (xsR (xCall f_law_draw (xlCons (xVar 0) (xlCons (xConst (.at (.int 5))) xlNil)))) [0] (x2 fItem (xConst (.at (.bytes [99, 112, 113, 115, 48, 55, 120, 57, 99]))) (xCall f_law_draw (xlCons (xVar 1) (xlCons (xConst (.at (.int 9))) xlNil))))) xlNil))) (sSeq (sSet 4 (xIf (tVal (x2 fNeY (xVar 4) (xConst (.at (.bytes []))))) (x2 fAddY (xVar 4) (xConst (.at (.bytes [112])))) (xVar 4))) (sSeq (sSet 2 (xList xlNil)) keysB)))
theorem keys_den : d_law_keys_right = (sSeq (sSet 1 (x2 fItem (xTup (xlCons (xConst (.at (.int 0))) (xlCons (xConst (.at (.int 16))) (xlCons (xConst (.at (.int 255))) (xlCons (xConst (.at (.int 256))) (xlCons (xConst (.at (.int 260))) (xlCons (xConst (.at (.int 261))) (xlCons (xConst (.at (.int 4))) (xlCons (xConst (.at (.int 5))) (xlCons (xConst (.at (.int 999))) xlNil)))))))))) (xCall f_law_draw (xlCons (xVar 0) (xlCons (xConst (.at (.int 9))) xlNil))))) (sSeq (sSet 2 (xIf (tVal (x2 (fC fun i j => decide (i < j)) (xVar 1) (xConst (.at (.int 256))))) (xTup (xlCons (xConst (.at (.str 0))) (xlCons (xVar 1) xlNil))) (xIf (tVal (x2 (fC fun i j => decide (i < j)) (xVar 1) (xConst (.at (.int 261))))) (xTup (xlCons (xConst (.at (.str 1))) (xlCons (x2 (fI fun i j K => K (.int (i - j))) (xVar 1) (xConst (.at (.int 256)))) xlNil))) (xConst (.at .none))))) (sSeq (sSet 3 (xList (xlCons (xCall f_osc_palette_key (xlCons (xVar 1) (xlCons (xConst (.at (.bool false))) xlNil))) (xlCons (xCall f_osc_palette_key (xlCons (xConst (.at .none)) (xlCons (xConst (.at (.bool false))) xlNil))) (xlCons (xCall f_osc_palette_key (xlCons (xConst (.at .none)) (xlCons (xConst (.at (.bool true))) xlNil))) xlNil))))) (sSeq (sIf (tReprNe (xVar 3) (xList (xlCons (xVar 2) (xlCons (xConst (.at .none)) (xlCons (xConst (.at .none)) xlNil))))) (sSeq (sRet (xConst (.at (.bool false)))) sNil) sNil) (sSeq (sIf (tReprNe (xCall f_osc_palette_key (xlCons (xVar 1) (xlCons (xConst (.at (.bool true))) xlNil))) (xIf (tVal (x2 (fC fun i j => decide (i < j)) (xVar 1) (xConst (.at (.int 5))))) (xTup (xlCons (xConst (.at (.str 1))) (xlCons (xVar 1) xlNil))) (xConst (.at .none)))) (sSeq (sRet (xConst (.at (.bool false)))) sNil) sNil) keysA))))) := rfl

def cv (x : UInt8) : UInt8 := ((x.toNat : Int)).toNat.toUInt8
def bs (fs : List (List UInt8)) : List AV := fs.map fun b => .at (.bytes b)
def selS (ss : List UInt8) (fs : List (List UInt8)) (x : UInt8) : List (List UInt8) := if ss.contains (cv x) = true ∧ [cv x] ∉ fs then fs ++ [[cv x]] else fs
def selF (b : List UInt8) : List (List UInt8) := b.foldl (selS sels) []
def nz (b : List UInt8) : List UInt8 := if b = [] then [115, 48] else b
theorem selS_len {ss : List UInt8} {fs : List (List UInt8)} {x : UInt8} : (selS ss fs x).length ≤ fs.length + 1 := by
  unfold selS
  split
  · rw [List.length_append]; exact Nat.le_refl _
  · exact Nat.le_succ _
theorem likes_b {fs : List (List UInt8)} {x : List UInt8} : likes (bs fs) (.at (.bytes x)) := ⟨true, by
  rw [List.all_eq_true]
  intro y m
  obtain ⟨b, m1, rfl⟩ := List.mem_map.mp m
  rfl⟩
theorem any_b {fs : List (List UInt8)} {x : List UInt8} : ((bs fs).any fun y => same y (.at (.bytes x))) = decide (x ∈ fs) := by
  rw [Bool.eq_iff_iff, List.any_eq_true, decide_eq_true_iff]
  refine ⟨fun ⟨y, m, e⟩ => ?_, fun m => ⟨_, List.mem_map_of_mem m, decide_eq_true rfl⟩⟩
  obtain ⟨b, m1, rfl⟩ := List.mem_map.mp m
  have e : At.bytes b = At.bytes x := of_decide_eq_true e
  cases e; exact m1
theorem bs_app {fs : List (List UInt8)} {x : List UInt8} : bs (fs ++ [x]) = bs fs ++ [.at (.bytes x)] := List.map_append
theorem bs_len {fs : List (List UInt8)} : (bs fs).length = fs.length := List.length_map ..
theorem cv_ok (x : UInt8) : 0 ≤ (x.toNat : Int) ∧ (x.toNat : Int) < 256 := ⟨Int.natCast_nonneg _, by have := x.toNat_lt; omega⟩
theorem ne_test {b : List UInt8} {p q : Prop} (h1 : b ≠ [] → p) (h2 : b = [] → q) : Bool.rec (motive := fun _ => Prop) q p (b != []) := by
  by_cases e : b = []
  · exact rec_f (by rw [e]; rfl) (h2 e)
  · exact rec_t (bne_iff_ne.mpr e) (h1 e)
def selB (ss : List UInt8) (v d : Nat) : XS := sSeq (sIf (tAnd (tVal (x2 fInY (xVar v) (xConst (.at (.bytes ss))))) (tVal (x2 (fInL false) (xBytes (xlCons (xVar v) xlNil)) (xVar d)))) (sSeq (sExpr (xM (mList (fl2 fAppend)) (xVar d) (xlCons (xBytes (xlCons (xVar v) xlNil)) xlNil))) sNil) sNil) sNil
theorem osc_step {ss : List UInt8} {x : UInt8} {fs : List (List UInt8)} {S : List UInt8} {o : Option AV} {a b c d : AObj} {R : KV} {J : Loc → Led → Prop} (hf : fs.length ≤ 50)
    (h : ∀ o, J [some (.at (.bytes S)), some (.obj 20), o] (Lg cs m es rows kn ic wi st ts wl ti as [a, b, c, d, .list (bs (selS ss fs x))])) :
    bd1 2 (.at (.int x.toNat)) [some (.at (.bytes S)), some (.obj 20), o] fun loc => selB ss 2 1 loc (Lg cs m es rows kn ic wi st ts wl ti as [a, b, c, d, .list (bs fs)]) R J := by
  have hx := cv_ok x
  have hb : ∀ n ∈ [(x.toNat : Int)], 0 ≤ n ∧ n < 256 := fun n m => List.mem_singleton.mp m ▸ hx
  have sm : small (bs fs) := by unfold small; rw [bs_len]; omega
  walk_at "ev"
  by_cases h1 : ss.contains (cv x) = true
  · refine rec_t (b := ss.contains (cv x)) h1 ?_
    walk_at "ev"
    refine And.intro likes_b ?_
    walk_at "ev"
    by_cases h2 : [cv x] ∈ fs
    · have e : selS ss fs x = fs := if_neg fun z => z.2 h2
      rw [e] at h
      refine rec_f (b := (List.any (bs fs) fun y => same y (.at (.bytes [cv x]))) == false) (by rw [any_b, decide_eq_true h2]; rfl) ?_
      walk_at "ev"
      exact h _
    · have e : selS ss fs x = fs ++ [[cv x]] := if_pos ⟨h1, h2⟩
      rw [e, bs_app] at h
      refine rec_t (b := (List.any (bs fs) fun y => same y (.at (.bytes [cv x]))) == false) (by rw [any_b, decide_eq_false h2]; rfl) ?_
      walk_at "ev"
      exact h _
  · have e : selS ss fs x = fs := if_neg fun z => h1 z.1
    rw [e] at h
    refine rec_f (b := ss.contains (cv x)) (Bool.eq_false_iff.mpr h1) ?_
    walk_at "ev"
    exact h _
theorem key_step {ss : List UInt8} {x : UInt8} {fs : List (List UInt8)} {o1 o3 o4 o5 : Option AV} {a b c : AObj} {R : KV} {J : Loc → Led → Prop} (hf : fs.length ≤ 50)
    (h : ∀ o, J [some (.obj 0), o1, some (.obj 19), o3, o4, o] (Lg cs m es rows kn ic wi st ts wl ti as [a, b, c, .list (bs (selS ss fs x))])) :
    bd1 5 (.at (.int x.toNat)) [some (.obj 0), o1, some (.obj 19), o3, o4, o5] fun loc => selB ss 5 2 loc (Lg cs m es rows kn ic wi st ts wl ti as [a, b, c, .list (bs fs)]) R J := by
  have hx := cv_ok x
  have hb : ∀ n ∈ [(x.toNat : Int)], 0 ≤ n ∧ n < 256 := fun n m => List.mem_singleton.mp m ▸ hx
  have sm : small (bs fs) := by unfold small; rw [bs_len]; omega
  walk_at "ev"
  by_cases h1 : ss.contains (cv x) = true
  · refine rec_t (b := ss.contains (cv x)) h1 ?_
    walk_at "ev"
    refine And.intro likes_b ?_
    walk_at "ev"
    by_cases h2 : [cv x] ∈ fs
    · have e : selS ss fs x = fs := if_neg fun z => z.2 h2
      rw [e] at h
      refine rec_f (b := (List.any (bs fs) fun y => same y (.at (.bytes [cv x]))) == false) (by rw [any_b, decide_eq_true h2]; rfl) ?_
      walk_at "ev"
      exact h _
    · have e : selS ss fs x = fs ++ [[cv x]] := if_pos ⟨h1, h2⟩
      rw [e, bs_app] at h
      refine rec_t (b := (List.any (bs fs) fun y => same y (.at (.bytes [cv x]))) == false) (by rw [any_b, decide_eq_false h2]; rfl) ?_
      walk_at "ev"
      exact h _
  · have e : selS ss fs x = fs := if_neg fun z => h1 z.1
    rw [e] at h
    refine rec_f (b := ss.contains (cv x)) (Bool.eq_false_iff.mpr h1) ?_
    walk_at "ev"
    exact h _

theorem selections {S : List UInt8} {a b c d : AObj} (hS : S.length ≤ 20) (h : K (.obj 20) (Lg cs m es rows kn ic wi st ts wl ti as [a, b, c, d, .list (bs (selF (nz S)))])) :
    f_osc_selections [.at (.bytes S)] (Lg cs m es rows kn ic wi st ts wl ti as [a, b, c, d]) K := by
  unfold f_osc_selections d_osc_selections
  rw [show sSeq (sIf (tAnd (tVal (x2 fInY (xVar 2) (xConst (.at (.bytes sels))))) (tVal (x2 (fInL false) (xBytes (xlCons (xVar 2) xlNil)) (xVar 1)))) (sSeq (sExpr (xM (mList (fl2 fAppend)) (xVar 1) (xlCons (xBytes (xlCons (xVar 2) xlNil)) xlNil))) sNil) sNil) sNil = selB sels 2 1 from rfl]
  have sp : ∀ {x : UInt8} {fs : List (List UInt8)} {o : Option AV} {R : KV} {J : Loc → Led → Prop} (hf : fs.length ≤ 50)
    (h : ∀ o, J [some (.at (.bytes S)), some (.obj 20), o] (Lg cs m es rows kn ic wi st ts wl ti as [a, b, c, d, .list (bs (selS sels fs x))])),
    bd1 2 (.at (.int x.toNat)) [some (.at (.bytes S)), some (.obj 20), o] fun loc => selB sels 2 1 loc (Lg cs m es rows kn ic wi st ts wl ti as [a, b, c, d, .list (bs fs)]) R J := fun hf h => osc_step hf h
  generalize selB sels 2 1 = q at sp ⊢
  walk_at "ev"
  refine ne_test (fun e => ?_) fun e => ?_
  · have et : nz S = S := if_neg e
    rw [et] at h
    walk_at "ev"
    refine loop_Y (fun r loc l => ∃ fs o, fs.length + r.length ≤ 40 ∧ r.foldl (selS sels) fs = selF S ∧ loc = [some (.at (.bytes S)), some (.obj 20), o] ∧ l = Lg cs m es rows kn ic wi st ts wl ti as [a, b, c, d, .list (bs fs)]) ⟨[], none, by show 0 + S.length ≤ 40; omega, rfl, rfl, rfl⟩ ?_ ?_
    · rintro loc l ⟨fs, o, -, e1, rfl, rfl⟩
      have e1 : fs = selF S := e1
      subst e1
      walk_at "ev"
      exact h
    · rintro x r loc l ⟨fs, o, hl, e1, rfl, rfl⟩
      have hl : fs.length + (r.length + 1) ≤ 40 := hl
      refine sp (by omega) fun o => ⟨selS sels fs x, o, ?_, e1, rfl, rfl⟩
      have := selS_len (ss := sels) (fs := fs) (x := x)
      omega
  · have et : nz S = [115, 48] := if_pos e
    rw [et] at h
    walk_at "ev"
    refine loop_Y (fun r loc l => ∃ fs o, fs.length + r.length ≤ 40 ∧ r.foldl (selS sels) fs = selF [115, 48] ∧ loc = [some (.at (.bytes S)), some (.obj 20), o] ∧ l = Lg cs m es rows kn ic wi st ts wl ti as [a, b, c, d, .list (bs fs)]) ⟨[], none, by decide, rfl, rfl, rfl⟩ ?_ ?_
    · rintro loc l ⟨fs, o, -, e1, rfl, rfl⟩
      have e1 : fs = selF [115, 48] := e1
      subst e1
      walk_at "ev"
      exact h
    · rintro x r loc l ⟨fs, o, hl, e1, rfl, rfl⟩
      have hl : fs.length + (r.length + 1) ≤ 40 := hl
      refine sp (by omega) fun o => ⟨selS sels fs x, o, ?_, e1, rfl, rfl⟩
      have := selS_len (ss := sels) (fs := fs) (x := x)
      omega
end
end Og
end

section
open PySem PySem.W PySem.Calls PyProof.Rows
set_option Elab.async false
set_option linter.unusedVariables false
set_option genSizeOf false
set_option genInjectivity false
namespace Og
local macro_rules | `(tactic| walk_at "sd") => `(tactic| first | assumption | rfl | exact Nat.le_of_ble_eq_true rfl | exact ⟨false, rfl⟩ | exact ⟨true, rfl⟩ | exact ⟨false, rfl, rfl⟩ | exact ⟨true, rfl, rfl⟩ | decide | assumption | exact Or.inr (by decide) | exact Or.inl (by decide) | omega | (refine And.intro ?_ ?_ <;> walk_at "sd"))
local macro_rules | `(tactic| walk_at "ev") => `(tactic| (conv => whnf); repeat (refine And.intro (by walk_at "sd") ?_; conv => whnf))
section
variable {cs : List Int} {m : Int} {es : List kvP} {rows : List (List At)} {kn : List kvP} {ic wi : List UInt8} {st : List (List At)} {ts : List kvP} {wl : List (List At)} {ti : List At} {as : List (List At)} {g : Led} {K : KV}
set_option maxHeartbeats 1000000
theorem asAs_bs {fs : List (List UInt8)} : ∀ {P : List At → Prop}, P (fs.map .bytes) → asAs (bs fs) P := by
  induction fs with
  | nil => exact fun h => h
  | cons x r ih => exact fun {P} h => ih (P := fun r => P (.bytes x :: r)) h
theorem kinds_b {fs gs : List (List UInt8)} : kinds (fs.map .bytes) (gs.map .bytes) := ⟨true, List.all_eq_true.mpr fun y m => by obtain ⟨b, m1, rfl⟩ := List.mem_map.mp m; rfl, List.all_eq_true.mpr fun y m => by obtain ⟨b, m1, rfl⟩ := List.mem_map.mp m; rfl⟩
theorem keys_b {S : List UInt8} {o1 o3 : Option AV} {a b c : AObj} {J : Loc → Led → Prop} (hS : S.length ≤ 20) (h : ∀ g, K (.at (.bool true)) (Lg cs m es rows kn ic wi st ts wl ti as g)) :
    keysB [some (.obj 0), o1, some (.obj 19), o3, some (.at (.bytes S)), none] (Lg cs m es rows kn ic wi st ts wl ti as [a, b, c, .list []]) K J := by
  have sO : ∀ (d : AObj) (K : KV), K (.obj 20) (Lg cs m es rows kn ic wi st ts wl ti as [a, b, c, d, .list (bs (selF (nz S)))]) → f_osc_selections [.at (.bytes S)] (Lg cs m es rows kn ic wi st ts wl ti as [a, b, c, d]) K := fun d K h => selections hS h
  have sp : ∀ {x : UInt8} {fs : List (List UInt8)} {o5 : Option AV} {R : KV} {J : Loc → Led → Prop} (hf : fs.length ≤ 50)
    (h : ∀ o, J [some (.obj 0), o1, some (.obj 19), o3, some (.at (.bytes S)), o] (Lg cs m es rows kn ic wi st ts wl ti as [a, b, c, .list (bs (selS sels fs x))])),
    bd1 5 (.at (.int x.toNat)) [some (.obj 0), o1, some (.obj 19), o3, some (.at (.bytes S)), o5] fun loc => selB sels 5 2 loc (Lg cs m es rows kn ic wi st ts wl ti as [a, b, c, .list (bs fs)]) R J := fun hf h => key_step hf h
  have nzl : (nz S).length ≤ 20 := by unfold nz; split; decide; exact hS
  unfold keysB
  rw [show sSeq (sIf (tAnd (tVal (x2 fInY (xVar 5) (xConst (.at (.bytes [99, 112, 113, 115, 48, 49, 50, 51, 52, 53, 54, 55]))))) (tVal (x2 (fInL false) (xBytes (xlCons (xVar 5) xlNil)) (xVar 2)))) (sSeq (sExpr (xM (mList (fl2 fAppend)) (xVar 2) (xlCons (xBytes (xlCons (xVar 5) xlNil)) xlNil))) sNil) sNil) sNil = selB sels 5 2 from rfl]
  generalize selB sels 5 2 = q at sp ⊢
  generalize f_osc_selections = q2 at sO ⊢
  have fsl : (selF (nz S)).length ≤ 20 := by
    unfold selF
    have : ∀ (r : List UInt8) (fs : List (List UInt8)), (r.foldl (selS sels) fs).length ≤ fs.length + r.length := fun r => by
      induction r with
      | nil => exact fun fs => Nat.le_refl _
      | cons x r ih =>
        intro fs
        have h1 := ih (selS sels fs x)
        have h2 := selS_len (ss := sels) (fs := fs) (x := x)
        show _ ≤ fs.length + (r.length + 1)
        show (r.foldl (selS sels) (selS sels fs x)).length ≤ _
        omega
    exact Nat.le_trans (this _ _) (by show 0 + (nz S).length ≤ 20; omega)
  have sml : small (bs (selF (nz S))) := by unfold small; rw [bs_len]; omega
  have fin : ∀ o, (fun loc l => sSeq (sRet (x2 fEqL (xCall (fl1 fList) (xlCons (xCall q2 (xlCons (xVar 4) xlNil)) xlNil)) (xVar 2))) sNil loc l K J) [some (.obj 0), o1, some (.obj 19), o3, some (.at (.bytes S)), o] (Lg cs m es rows kn ic wi st ts wl ti as [a, b, c, .list (bs (selF (nz S)))]) := fun o => by
    walk_at "ev"
    refine sO _ _ ?_
    walk_at "ev"
    refine asAs_bs ?_
    refine asAs_bs ?_
    refine And.intro ⟨rfl, kinds_b⟩ ?_
    rw [decide_eq_true rfl]
    exact h [_, _, _, _, _, _]
  walk_at "ev"
  refine ne_test (fun e => ?_) fun e => ?_
  · have et : nz S = S := if_neg e
    walk_at "ev"
    refine loop_Y (fun r loc l => ∃ fs o, fs.length + r.length ≤ 40 ∧ r.foldl (selS sels) fs = selF (nz S) ∧ loc = [some (.obj 0), o1, some (.obj 19), o3, some (.at (.bytes S)), o] ∧ l = Lg cs m es rows kn ic wi st ts wl ti as [a, b, c, .list (bs fs)]) ⟨[], none, by show 0 + S.length ≤ 40; omega, by rw [et]; rfl, rfl, rfl⟩ ?_ ?_
    · rintro loc l ⟨fs, o, -, e1, rfl, rfl⟩
      have e1 : fs = selF (nz S) := e1
      subst e1
      exact fin _
    · rintro x r loc l ⟨fs, o, hl, e1, rfl, rfl⟩
      have hl : fs.length + (r.length + 1) ≤ 40 := hl
      refine sp (by omega) fun o => ⟨selS sels fs x, o, ?_, e1, rfl, rfl⟩
      have := selS_len (ss := sels) (fs := fs) (x := x)
      omega
  · have et : nz S = [115, 48] := if_pos e
    walk_at "ev"
    refine loop_Y (fun r loc l => ∃ fs o, fs.length + r.length ≤ 40 ∧ r.foldl (selS sels) fs = selF (nz S) ∧ loc = [some (.obj 0), o1, some (.obj 19), o3, some (.at (.bytes S)), o] ∧ l = Lg cs m es rows kn ic wi st ts wl ti as [a, b, c, .list (bs fs)]) ⟨[], none, by decide, by rw [et]; rfl, rfl, rfl⟩ ?_ ?_
    · rintro loc l ⟨fs, o, -, e1, rfl, rfl⟩
      have e1 : fs = selF (nz S) := e1
      subst e1
      exact fin _
    · rintro x r loc l ⟨fs, o, hl, e1, rfl, rfl⟩
      have hl : fs.length + (r.length + 1) ≤ 40 := hl
      refine sp (by omega) fun o => ⟨selS sels fs x, o, ?_, e1, rfl, rfl⟩
      have := selS_len (ss := sels) (fs := fs) (x := x)
      omega
def ib (b : List UInt8) : List AV := b.map fun x => .at (.int x.toNat)
theorem asIs_ib {b : List UInt8} : ∀ {P : List Int → Prop}, P (b.map fun x => (x.toNat : Int)) → asIs (ib b) P := by
  induction b with
  | nil => exact fun h => h
  | cons x r ih => exact fun {P} h => ih (P := fun r => P ((x.toNat : Int) :: r)) h
theorem ib_app {b : List UInt8} {x : UInt8} : ib (b ++ [x]) = ib b ++ [.at (.int x.toNat)] := List.map_append
theorem ib_len {b : List UInt8} : (ib b).length = b.length := List.length_map ..
theorem ib_ok {b : List UInt8} : ∀ n ∈ b.map fun x => (x.toNat : Int), 0 ≤ n ∧ n < 256 := fun n m => by
  obtain ⟨x, _, rfl⟩ := List.mem_map.mp m
  exact cv_ok x
theorem at_signs {z : Int} (a : 0 ≤ z) (b : z < 9) : ∃ x, ([99, 112, 113, 115, 48, 55, 120, 57, 99] : List UInt8)[z.toNat]? = some x := by
  have : z.toNat < ([99, 112, 113, 115, 48, 55, 120, 57, 99] : List UInt8).length := by show z.toNat < 9; omega
  exact ⟨_, List.getElem?_eq_getElem this⟩
theorem keys_a {o1 o2 o3 : Option AV} {a b : AObj} {J : Loc → Led → Prop} (hc : cs.length ≤ 900) (h : ∀ (cs' : List Int) m' g, cs'.length ≤ 900 → K (.at (.bool true)) (Lg cs' m' es rows kn ic wi st ts wl ti as g)) :
    keysA [some (.obj 0), o1, o2, o3, none, none] (Lg cs m es rows kn ic wi st ts wl ti as [a, b]) K J := by
  have sd : DrawOk f_law_draw := draw_ok
  have sB : ∀ (S : List UInt8) (c : AObj) (cs m), cs.length ≤ 900 → S.length ≤ 20 → keysB [some (.obj 0), o1, some (.obj 19), o3, some (.at (.bytes S)), none] (Lg cs m es rows kn ic wi st ts wl ti as [a, b, c, .list []]) K J := fun S c cs m hc hS => keys_b hS fun g => h cs m g hc
  unfold keysA
  generalize f_law_draw = q at sd ⊢
  generalize keysB = q2 at sB ⊢
  walk_at "ev"
  refine sd 5 (by decide) hc fun z m' cs' z0 z1 hc' => ?_
  have zz : 0 ≤ z ∧ z < 1000 := by omega
  walk_at "ev"
  have zn : z.toNat ≤ 5 := by omega
  generalize z.toNat = n at zn ⊢
  refine ⟨n, fun i l => i ≤ n ∧ ∃ (cs : List Int) (m : Int) (bb : List UInt8), cs.length ≤ 900 ∧ bb.length = i ∧ l = Lg cs m es rows kn ic wi st ts wl ti as [a, b, .list (ib bb)], ⟨Nat.zero_le _, cs', m', [], hc', rfl, rfl⟩, ?_⟩
  rintro i l ⟨hi, cs, m, bb, hc, hb, rfl⟩
  have sm : small (ib bb) := by unfold small; rw [ib_len]; omega
  unfold srcR
  by_cases lt : i < n
  · rw [decide_eq_true lt]
    refine And.intro lt ?_
    walk_at "ev"
    refine sd 9 (by decide) hc fun z m' cs' z0 z1 hc' => ?_
    obtain ⟨x, ex⟩ := at_signs z0 z1
    have zz : 0 ≤ z ∧ z < 4611686018427387904 := by omega
    walk_at "ev"
    refine rec_s ex ?_
    walk_at "ev"
    exact ⟨cs', m', bb ++ [x], hc', by rw [List.length_append, hb]; rfl, by rw [ib_app]; rfl⟩
  · rw [decide_eq_false lt]
    walk_at "ev"
    refine asIs_ib ?_
    refine And.intro ⟨sm, ib_ok⟩ ?_
    have len : (toY (bb.map fun x => (x.toNat : Int))).length ≤ 5 := by unfold toY; rw [List.length_map, List.length_map]; omega
    generalize toY (bb.map fun x => (x.toNat : Int)) = S at len ⊢
    have sm2 : small S := Nat.le_trans len (by decide)
    walk_at "ev"
    refine ne_test (fun e => ?_) fun e => ?_
    · walk_at "ev"
      exact sB (S ++ [112]) _ _ _ hc (by rw [List.length_append]; show S.length + 1 ≤ 20; omega)
    · walk_at "ev"
      exact sB S _ _ _ hc (by omega)
end
end Og
end

section
open PySem PySem.W PySem.Calls PyProof.Rows
set_option Elab.async false
set_option linter.unusedVariables false
set_option genSizeOf false
set_option genInjectivity false
namespace Og
local macro_rules | `(tactic| walk_at "sd") => `(tactic| first | assumption | exact Nat.le_of_ble_eq_true (by kernel_rfl) | rfl | exact ⟨false, rfl⟩ | exact ⟨true, rfl⟩ | exact ⟨false, rfl, rfl⟩ | exact ⟨true, rfl, rfl⟩ | decide | assumption | exact Or.inr rfl | exact Or.inl rfl | exact Or.inr (by decide) | exact Or.inl (by decide) | omega | (refine And.intro ?_ ?_ <;> walk_at "sd"))
local macro_rules | `(tactic| walk_at "ev") => `(tactic| (conv => whnf); repeat (refine And.intro (by walk_at "sd") ?_; conv => whnf))
section
variable {cs : List Int} {m : Int} {es : List kvP} {rows : List (List At)} {kn : List kvP} {ic wi : List UInt8} {st : List (List At)} {ts : List kvP} {wl : List (List At)} {ti : List At} {as : List (List At)} {g : Led} {K : KV}
set_option maxHeartbeats 1000000
theorem nine {z : Int} (a : 0 ≤ z) (b : z < 9) : z = 0 ∨ z = 1 ∨ z = 2 ∨ z = 3 ∨ z = 4 ∨ z = 5 ∨ z = 6 ∨ z = 7 ∨ z = 8 := by omega
theorem keys_right (hc : cs.length ≤ 900) (h : ∀ (cs' : List Int) m' g, cs'.length ≤ 900 → K (.at (.bool true)) (Lg cs' m' es rows kn ic wi st ts wl ti as g)) :
    f_law_keys_right [.obj 0] (Lg cs m es rows kn ic wi st ts wl ti as []) K := by
  have sd : DrawOk f_law_draw := draw_ok
  have sA : ∀ (o1 o2 o3 : Option AV) (a b : AObj) (cs m) (J : Loc → Led → Prop), cs.length ≤ 900 → keysA [some (.obj 0), o1, o2, o3, none, none] (Lg cs m es rows kn ic wi st ts wl ti as [a, b]) K J := fun o1 o2 o3 a b cs m J hc => keys_a hc h
  unfold f_law_keys_right
  rw [keys_den]
  generalize f_law_draw = q at sd ⊢
  generalize keysA = q2 at sA ⊢
  walk_at "ev"
  refine sd 9 (by decide) hc fun z m' cs' z0 z1 hc' => ?_
  have hz := nine z0 z1
  clear z0 z1
  rcases hz with rfl | rfl | rfl | rfl | rfl | rfl | rfl | rfl | rfl <;> (walk_at "ev"; refine Or.inl ?_; walk_at "ev"; refine Or.inl ?_; walk_at "ev"; refine Or.inr ?_; walk_at "ev"; refine Or.inr ?_; walk_at "ev"; exact sA _ _ _ _ _ _ _ _ hc')
end
end Og
end

section
open PySem PySem.W PySem.Calls PyProof.Rows
set_option Elab.async false
set_option linter.unusedVariables false
set_option genSizeOf false
set_option genInjectivity false
namespace Og
local macro_rules | `(tactic| walk_at "sd") => `(tactic| first | assumption | rfl | exact Nat.le_of_ble_eq_true rfl | exact ⟨false, rfl⟩ | exact ⟨true, rfl⟩ | exact ⟨false, rfl, rfl⟩ | exact ⟨true, rfl, rfl⟩ | decide | assumption | exact Or.inr (by decide) | exact Or.inl (by decide) | omega | (refine And.intro ?_ ?_ <;> walk_at "sd"))
local macro_rules | `(tactic| walk_at "ev") => `(tactic| (conv => whnf); repeat (refine And.intro (by walk_at "sd") ?_; conv => whnf))
section
variable {cs : List Int} {m : Int} {es : List kvP} {rows : List (List At)} {kn : List kvP} {ic wi : List UInt8} {st : List (List At)} {ts : List kvP} {wl : List (List At)} {ti : List At} {as : List (List At)} {g : Led} {K : KV}
set_option maxHeartbeats 1000000
theorem rec_so {α : Type} {o : Option α} {p : Prop} {q : α → Prop} {x : α} (e : o = some x) (h : q x) : Option.rec (motive := fun _ => Prop) p q o := by subst e; exact h
theorem rec_no {α : Type} {o : Option α} {p : Prop} {q : α → Prop} (e : o = none) (h : p) : Option.rec (motive := fun _ => Prop) p q o := by subst e; exact h
def zl (ns : List Int) : List AV := ns.map fun z => .at (.int z)
theorem zl_len {ns : List Int} : (zl ns).length = ns.length := List.length_map ..
theorem zl_app {ns : List Int} {z : Int} : zl (ns ++ [z]) = zl ns ++ [.at (.int z)] := List.map_append
theorem zl_get {ns : List Int} {i : Nat} (h : i < ns.length) : (zl ns)[i]? = some (.at (.int ns[i])) := by unfold zl; rw [List.getElem?_map, List.getElem?_eq_getElem h]; rfl
theorem filter_zl {ns : List Int} (js : List Nat) : js.filterMap ((zl ns)[·]?) = zl (js.filterMap (ns[·]?)) := by
  induction js with
  | nil => rfl
  | cons j r ih =>
    rw [List.filterMap_cons, List.filterMap_cons]
    unfold zl
    rw [List.getElem?_map]
    cases ns[j]? with
    | none => exact ih
    | some x => exact congrArg (AV.at (.int x) :: ·) ih
def rngL (lo hi st : Option Int) (n : Nat) : List Nat := sliceRange (sliceBounds lo hi st n).1 (sliceBounds lo hi st n).2.1 (sliceBounds lo hi st n).2.2
theorem rng60 : ∀ n, n < 64 → (rngL none (some 60) none n).length ≤ 63 := by decide +kernel
theorem rngR : ∀ n, n < 64 → (rngL none none (some (-1)) n).length ≤ 63 := by decide +kernel
theorem pick_zl {lo hi st : Option Int} (H : ∀ n, n < 64 → (rngL lo hi st n).length ≤ 63) {ns : List Int} (hn : ns.length ≤ 63) : ∃ zs, pick lo hi st (zl ns) = zl zs ∧ zs.length ≤ 63 := by
  refine ⟨_, (show pick lo hi st (zl ns) = (rngL lo hi st (zl ns).length).filterMap ((zl ns)[·]?) from rfl).trans (filter_zl _), ?_⟩
  refine Nat.le_trans (List.length_filterMap_le _ _) (H _ ?_)
  rw [zl_len]; omega
theorem deck {ns : List Int} (hn : ns.length ≤ 63) (h : ∀ A B (cs : List Int) m, cs.length ≤ 900 → K (.obj 2) [A, B, .sdict [(3, .obj 3), (4, .at (.int m))], .list (cs.map fun z => .at (.int z))]) : f_law_deck [.ints ns] [] K := by
  obtain ⟨zs, ez, hz⟩ := pick_zl rng60 hn
  have sm : small (zl ns) := by unfold small; rw [zl_len]; omega
  have fin : ∀ (A : AObj) (ys : List Int) (m : Int) (o : Option AV), ys.length ≤ 63 → sSeq (sRet (xDict [3, 4] (xlCons (x1 (fSlice none none (some (-1))) (xVar 2)) (xlCons (xVar 3) xlNil)))) sNil [some (.ints ns), o, some (.obj 1), some (.at (.int m))] [A, .list (zl ys)] K fun _ l => K (.at .none) l := fun A ys m o hy => by
    obtain ⟨cs, ec, hcs⟩ := pick_zl rngR hy
    have sm : small (zl ys) := by unfold small; rw [zl_len]; omega
    walk_at "ev"
    rw [ec]
    exact h _ _ cs m (by omega)
  have ez' : pick none (some 60) none (List.map (fun z => AV.at (At.int z)) ns) = zl zs := ez
  walk_at "ev"
  rw [ez']
  refine ⟨zs.length, fun i l => i ≤ zs.length ∧ ∃ ys : List Int, ys.length = i ∧ l = [.list (zl zs), .list (zl ys)], ⟨Nat.zero_le _, [], rfl, rfl⟩, ?_⟩
  rintro i l ⟨hi, ys, hy, rfl⟩
  have smy : small (zl ys) := by unfold small; rw [zl_len]; omega
  walk_at "ev"
  by_cases lt : i < zs.length
  · refine rec_so (zl_get lt) ?_
    refine And.intro lt ?_
    walk_at "ev"
    refine ⟨ys ++ [(id zs[i]).fmod (10 ^ Int.toNat 9)], by rw [List.length_append, hy]; rfl, ?_⟩
    rw [zl_app]
    rfl
  · refine rec_no (List.getElem?_eq_none (by rw [zl_len]; omega)) ?_
    walk_at "ev"
    refine loop_L (zl ys) (fun r loc l => (∀ v ∈ r, ∃ z : Int, v = .at (.int z)) ∧ l = [.list (zl zs), .list (zl ys)] ∧ ∃ o m, loc = [some (.ints ns), o, some (.obj 1), some (.at (.int m))]) ?_ ⟨fun v m => (List.mem_map.mp m).imp fun z e => e.2.symm, rfl, none, 102, rfl⟩ ?_ ?_
    · rintro r loc l ⟨-, rfl, -⟩; rfl
    · rintro loc l ⟨-, rfl, o, m, rfl⟩
      exact fin _ ys _ _ (by omega)
    · rintro v r loc l ⟨hv, rfl, o, m, rfl⟩
      obtain ⟨z, rfl⟩ := hv v (List.mem_cons_self ..)
      have hr : ∀ v ∈ r, ∃ z : Int, v = .at (.int z) := fun v m => hv v (List.mem_cons_of_mem _ m)
      walk_at "ev"
      exact ⟨_, _, rfl⟩
end
end Og
end

section
open PySem PySem.W PySem.Calls PyProof.Rows
set_option Elab.async false
set_option linter.unusedVariables false
set_option genSizeOf false
set_option genInjectivity false
namespace Og
local macro_rules | `(tactic| walk_at "sd") => `(tactic| first | assumption | rfl | exact Nat.le_of_ble_eq_true rfl | exact ⟨false, rfl⟩ | exact ⟨true, rfl⟩ | exact ⟨false, rfl, rfl⟩ | exact ⟨true, rfl, rfl⟩ | decide | assumption | exact Or.inr (by decide) | exact Or.inl (by decide) | omega | (refine And.intro ?_ ?_ <;> walk_at "sd"))
local macro_rules | `(tactic| walk_at "ev") => `(tactic| (conv => whnf); repeat (refine And.intro (by walk_at "sd") ?_; conv => whnf))
section
variable {cs : List Int} {m : Int} {es : List kvP} {rows : List (List At)} {kn : List kvP} {ic wi : List UInt8} {st : List (List At)} {ts : List kvP} {wl : List (List At)} {ti : List At} {as : List (List At)} {g : Led} {K : KV}
set_option maxHeartbeats 1000000
def lawI : XS := (sIf (tVal (x2 (fC fun i j => decide (i < j)) (xVar 8) (xConst (.at (.int 6))))) (sSeq (sExpr (xCall f_law_coloured (xlCons (xVar 1) (xlCons (xVar 5) (xlCons (xVar 2) (xlCons (xVar 8) xlNil)))))) sNil) (sSeq (sIf (tAnd (tVal (x2 (fC fun i j => decide (j < i)) (xVar 8) (xConst (.at (.int 7))))) (tVal (x2 (fC fun i j => decide (i < j)) (xVar 8) (xConst (.at (.int 11)))))) (sSeq (sExpr (xCall f_law_titled (xlCons (xVar 1) (xlCons (xVar 7) (xlCons (xVar 2) (xlCons (xVar 8) xlNil)))))) sNil) (sSeq (sIf (tVal (x2 (fC fun i j => i == j) (xVar 8) (xConst (.at (.int 11))))) (sSeq (sIf (tNot (tVal (xCall f_law_keys_right (xlCons (xVar 1) xlNil)))) (sSeq (sRet (xConst (.at (.bool false)))) sNil) sNil) sNil) (sSeq (sIf (tNot (tVal (xCall f_law_link_right (xlCons (xVar 1) (xlCons (xVar 6) (xlCons (xVar 2) xlNil)))))) (sSeq (sRet (xConst (.at (.bool false)))) sNil) sNil) sNil)) sNil)) sNil))
def lawT : XS := (sSeq (sIf (tOr (tNot (tVal (xCall f_law_palette_right (xlCons (xVar 5) (xlCons (xVar 2) xlNil))))) (tVal (x2 fNeT (xTup (xlCons (x1 (fGet 74 10) (xVar 7)) (xlCons (x1 (fGet 74 11) (xVar 7)) xlNil))) (x2 fItem (xVar 2) (xConst (.at (.str 15))))))) (sSeq (sRet (xConst (.at (.bool false)))) sNil) sNil) sNil)
def lawB1 : XS := (sRe (sSeq (sSet 8 (xCall f_law_draw (xlCons (xVar 1) (xlCons (xConst (.at (.int 12))) xlNil)))) (sSeq (sRe lawI) lawT)))
def lawB2 : XS := (sRe (sSeq (sExpr (xM (mInst 74 f_T_pop) (xVar 7) (xlCons (xConst (.at (.int 0))) xlNil))) (sSeq (sItem fPut (xIf (tNil (x2 fItem (xVar 2) (xConst (.at (.str 16))))) (xM (mList (fl1 fPop)) (x2 fItem (xVar 2) (xConst (.at (.str 16)))) xlNil) (x2 fItem (xVar 2) (xConst (.at (.str 15))))) (xVar 2) (xConst (.at (.str 15)))) (sSeq (sIf (tVal (x2 fNeT (xTup (xlCons (x1 (fGet 74 10) (xVar 7)) (xlCons (x1 (fGet 74 11) (xVar 7)) xlNil))) (x2 fItem (xVar 2) (xConst (.at (.str 15)))))) (sSeq (sRet (xConst (.at (.bool false)))) sNil) sNil) sNil))))
def lawE : XS := (sSeq (sRet (xCall f_law_keys_right (xlCons (xVar 1) xlNil))) sNil)
theorem law_den : d_law = (sSeq (sRe (sSet 1 (xCall f_law_deck (xlCons (xVar 0) xlNil)))) (sSeq (sMany [4, 5, 6, 7] (xDisp (xlCons (x2 (fI fun i j K => K (.int (i + j))) (xConst (.at (.int 1))) (xCall f_law_draw (xlCons (xVar 1) (xlCons (xConst (.at (.int 14))) xlNil)))) (xlCons (xCall m_P (xlCons (xConst (.at (.int 1122867))) (xlCons (xConst (.at (.int 4478310))) xlNil))) (xlCons (xCall m_L xlNil) (xlCons (xCall m_T xlNil) xlNil)))))) (sSeq (sSet 2 (xDict [5, 6, 13, 14, 15, 16] (xlCons (xConst (.at (.int 1122867))) (xlCons (xConst (.at (.int 4478310))) (xlCons (xEmpty false) (xlCons (xList xlNil) (xlCons (xTup (xlCons (xConst (.at (.bytes [116]))) (xlCons (xConst (.at (.bytes [116]))) xlNil))) (xlCons (xList xlNil) xlNil)))))))) (sSeq (sExpr (xM (mInst 74 f_T_put) (xVar 7) (xlCons (xConst (.at (.int 0))) (xlCons (xConst (.at (.bytes [116]))) xlNil)))) (sSeq (sFor (xsR (xVar 4)) (bd1 3) lawB1) (sSeq (sFor (xsR (xConst (.at (.int 3)))) (bd1 3) lawB2) lawE)))))) := rfl
/-- what holds between the turns -/
structure Wo (n : Nat) (cs : List Int) (es ts : List kvP) (ls t : List Bp) : Prop where
  hc : cs.length ≤ 900
  he : es.length ≤ n
  s : Sm es ts
  hl : ls.length ≤ 3
  ht : t.length ≤ 2
abbrev Lc (cs : List Int) (m : Int) (es ts : List kvP) (ls : List Bp) (ic wi : List UInt8) (t : List Bp) (g : Led) : Led := Lg cs m es (ls.map tt) (knF 0 ls) ic wi (t.map tt) ts (ls.map tt) (tt (ic, wi)) (t.map tt) g
abbrev lo (o0 o3 o4 o8 : Option AV) : Loc := [o0, some (.obj 0), some (.obj 12), o3, o4, some (.obj 3), some (.obj 6), some (.obj 10), o8]
variable {ls t : List Bp} {n : Nat} {o0 o3 o4 o8 : Option AV} {R : KV} {J : Loc → Led → Prop}
theorem rel_none {ks : List Nat} {x : Option AV} : RelS ks none x := fun _ e => nomatch e
theorem re_go {l L : Led} (c : Canon l L) (h : J (lo none none none none) L) : ∃ ks loc' l', ks.Nodup ∧ Paired (RelS ks) loc' (lo o0 o3 o4 o8) ∧ Paired (fun j o' => ∃ o, l[j]? = some o ∧ RelO ks o' o) ks l' ∧ J loc' l' := by
  obtain ⟨a, b, hn, p⟩ := c
  refine ⟨js a b, _, L, hn, ?_, p, h⟩
  have ob : ∀ {i}, (js a b)[i]? = some i → RelS (js a b) (some (.obj i)) (some (.obj i)) := fun {i} e x q => by
    cases q
    exact ⟨_, rfl, by show (js a b)[i]?.map AV.obj = _; rw [e]; rfl⟩
  exact .cons rel_none (.cons (ob rfl) (.cons (ob rfl) (.cons rel_none (.cons rel_none (.cons (ob rfl) (.cons (ob rfl) (.cons (ob rfl) (.cons rel_none .nil))))))))
theorem law_t (s : Sm es ts) (h : ∀ g, J (lo o0 o3 o4 o8) (Lc cs m es ts ls ic wi t g)) : lawT (lo o0 o3 o4 o8) (Lc cs m es ts ls ic wi t []) R J := by
  have sp : ∀ (K : KV), (∀ g, K (.at (.bool true)) (Lc cs m es ts ls ic wi t g)) → f_law_palette_right [.obj 3, .obj 12] (Lc cs m es ts ls ic wi t []) K := fun K h => palette_right s h
  unfold lawT
  generalize f_law_palette_right = q at sp ⊢
  walk_at "ev"
  refine sp _ fun g => ?_
  walk_at "ev"
  refine rec_f (nn (ic, wi)) ?_
  walk_at "ev"
  exact h g
theorem law_i {z : Int} (z0 : 0 ≤ z) (z1 : z < 12) (W : Wo n cs es ts ls t) (hn : n ≤ 20)
    (h : ∀ l cs' m' es' ts' ls' ic' wi' t', Wo (n + 1) cs' es' ts' ls' t' → Canon l (Lc cs' m' es' ts' ls' ic' wi' t' []) → J (lo o0 o3 o4 (some (.at (.int z)))) l) :
    lawI (lo o0 o3 o4 (some (.at (.int z)))) (Lc cs m es ts ls ic wi t []) R J := by
  have hs : es.length ≤ 900 := Nat.le_trans W.he (by omega)
  have sC : ∀ (K : KV), (z < 6) → (∀ l (cs' : List Int) m' es' ts', cs'.length ≤ 900 → es'.length ≤ es.length + 1 → Sm es' ts' → Canon l (Lc cs' m' es' ts' ls ic wi t []) → K (.at .none) l) → f_law_coloured [.obj 0, .obj 3, .obj 12, .at (.int z)] (Lc cs m es ts ls ic wi t []) K :=
    fun K hz h => coloured (by omega) hs W.s W.hc h
  have sT : ∀ (K : KV), (7 < z) → z < 11 → (∀ l (cs' : List Int) m' ic' wi' (t' : List Bp), cs'.length ≤ 900 → t'.length ≤ 2 → Canon l (Lc cs' m' es ts ls ic' wi' t' []) → K (.at .none) l) → f_law_titled [.obj 0, .obj 10, .obj 12, .at (.int z)] (Lc cs m es ts ls ic wi t []) K :=
    fun K h1 h2 h => titled (by omega) W.ht W.hc h
  have sK : ∀ (K : KV), (∀ (cs' : List Int) m' g, cs'.length ≤ 900 → K (.at (.bool true)) (Lc cs' m' es ts ls ic wi t g)) → f_law_keys_right [.obj 0] (Lc cs m es ts ls ic wi t []) K := fun K h => keys_right W.hc h
  have sL : ∀ (K : KV), (∀ (cs' : List Int) m' (ls' : List Bp) g, cs'.length ≤ 900 → ls'.length ≤ 3 → K (.at (.bool true)) (Lc cs' m' es ts ls' ic wi t g)) → f_law_link_right [.obj 0, .obj 6, .obj 12] (Lc cs m es ts ls ic wi t []) K := fun K h => link_right W.hl W.hc h
  unfold lawI
  generalize f_law_coloured = q1 at sC ⊢
  generalize f_law_titled = q2 at sT ⊢
  generalize f_law_keys_right = q3 at sK ⊢
  generalize f_law_link_right = q4 at sL ⊢
  walk_at "ev"
  by_cases h6 : z < 6
  · refine rec_t (b := decide (z < 6)) (decide_eq_true h6) ?_
    walk_at "ev"
    refine sC _ h6 fun l cs' m' es' ts' hc he hs c => ?_
    walk_at "ev"
    exact h l _ _ _ _ _ _ _ _ ⟨hc, Nat.le_trans he (Nat.succ_le_succ W.he), hs, W.hl, W.ht⟩ c
  · refine rec_f (b := decide (z < 6)) (decide_eq_false h6) ?_
    have rest : z = 11 ∨ ¬ z = 11 → ¬ (7 < z ∧ z < 11) → sSeq (sIf (tVal (x2 (fC fun i j => i == j) (xVar 8) (xConst (.at (.int 11))))) (sSeq (sIf (tNot (tVal (xCall q3 (xlCons (xVar 1) xlNil)))) (sSeq (sRet (xConst (.at (.bool false)))) sNil) sNil) sNil) (sSeq (sIf (tNot (tVal (xCall q4 (xlCons (xVar 1) (xlCons (xVar 6) (xlCons (xVar 2) xlNil)))))) (sSeq (sRet (xConst (.at (.bool false)))) sNil) sNil) sNil)) sNil (lo o0 o3 o4 (some (.at (.int z)))) (Lc cs m es ts ls ic wi t []) R J := fun h11 _ => by
      walk_at "ev"
      rcases h11 with h11 | h11
      · refine rec_t (b := z == 11) (beq_iff_eq.mpr h11) ?_
        walk_at "ev"
        refine sK _ fun cs' m' g hc => ?_
        walk_at "ev"
        exact h _ _ _ _ _ _ _ _ _ ⟨hc, Nat.le_succ_of_le W.he, W.s, W.hl, W.ht⟩ (canonG (g := g))
      · refine rec_f (b := z == 11) (beq_eq_false_iff_ne.mpr h11) ?_
        walk_at "ev"
        refine sL _ fun cs' m' ls' g hc hl => ?_
        walk_at "ev"
        exact h _ _ _ _ _ _ _ _ _ ⟨hc, Nat.le_succ_of_le W.he, W.s, hl, W.ht⟩ (canonG (g := g))
    walk_at "ev"
    by_cases h7 : 7 < z
    · refine rec_t (b := decide (7 < z)) (decide_eq_true h7) ?_
      walk_at "ev"
      by_cases h11 : z < 11
      · refine rec_t (b := decide (z < 11)) (decide_eq_true h11) ?_
        walk_at "ev"
        refine sT _ h7 h11 fun l cs' m' ic' wi' t' hc ht c => ?_
        walk_at "ev"
        exact h l _ _ _ _ _ _ _ _ ⟨hc, Nat.le_succ_of_le W.he, W.s, W.hl, ht⟩ c
      · refine rec_f (b := decide (z < 11)) (decide_eq_false h11) ?_
        exact rest (Classical.em _) fun x => h11 x.2
    · refine rec_f (b := decide (7 < z)) (decide_eq_false h7) ?_
      exact rest (Classical.em _) fun x => h7 x.1
end
end Og
end

section
open PySem PySem.W PySem.Calls PyProof.Rows
set_option Elab.async false
set_option linter.unusedVariables false
set_option genSizeOf false
set_option genInjectivity false
namespace Og
local macro_rules | `(tactic| walk_at "sd") => `(tactic| first | assumption | rfl | exact Nat.le_of_ble_eq_true rfl | exact ⟨false, rfl⟩ | exact ⟨true, rfl⟩ | exact ⟨false, rfl, rfl⟩ | exact ⟨true, rfl, rfl⟩ | decide | assumption | exact Or.inr (by decide) | exact Or.inl (by decide) | omega | (refine And.intro ?_ ?_ <;> walk_at "sd"))
local macro_rules | `(tactic| walk_at "ev") => `(tactic| (conv => whnf); repeat (refine And.intro (by walk_at "sd") ?_; conv => whnf))
section
variable {cs : List Int} {m : Int} {es : List kvP} {rows : List (List At)} {kn : List kvP} {ic wi : List UInt8} {st : List (List At)} {ts : List kvP} {wl : List (List At)} {ti : List At} {as : List (List At)} {g : Led} {K : KV}
set_option maxHeartbeats 1000000
variable {ls t : List Bp} {n : Nat} {o0 o3 o4 o8 : Option AV} {R : KV} {J : Loc → Led → Prop}
theorem law_b1 (W : Wo n cs es ts ls t) (hn : n ≤ 20) (h : ∀ cs' m' es' ts' ls' ic' wi' t', Wo (n + 1) cs' es' ts' ls' t' → J (lo none none none none) (Lc cs' m' es' ts' ls' ic' wi' t' [])) :
    lawB1 (lo o0 o3 o4 o8) (Lc cs m es ts ls ic wi t []) R J := by
  have sd : DrawOk f_law_draw := draw_ok
  have sI : ∀ (z : Int) (cs m) (J : Loc → Led → Prop), 0 ≤ z → z < 12 → cs.length ≤ 900 → (∀ l cs' m' es' ts' ls' ic' wi' t', Wo (n + 1) cs' es' ts' ls' t' → Canon l (Lc cs' m' es' ts' ls' ic' wi' t' []) → J (lo o0 o3 o4 (some (.at (.int z)))) l) →
    lawI (lo o0 o3 o4 (some (.at (.int z)))) (Lc cs m es ts ls ic wi t []) R J := fun z cs m J z0 z1 hc h => law_i z0 z1 ⟨hc, W.he, W.s, W.hl, W.ht⟩ hn h
  have sT : ∀ (cs m es ts ls ic wi t) (J : Loc → Led → Prop), Sm es ts → (∀ g, J (lo none none none none) (Lc cs m es ts ls ic wi t g)) → lawT (lo none none none none) (Lc cs m es ts ls ic wi t []) R J := fun cs m es ts ls ic wi t J s h => law_t s h
  unfold lawB1
  generalize f_law_draw = q at sd ⊢
  generalize lawI = q1 at sI ⊢
  generalize lawT = q2 at sT ⊢
  walk_at "ev"
  refine sd 12 (by decide) W.hc fun z m' cs' z0 z1 hc' => ?_
  walk_at "ev"
  refine sI z cs' m' _ z0 z1 hc' fun l cs' m' es' ts' ls' ic' wi' t' W' c => ?_
  refine re_go c ?_
  refine sT _ _ _ _ _ _ _ _ _ W'.s fun g => ?_
  exact re_go (canonG (g := g)) (h _ _ _ _ _ _ _ _ W')
theorem law_b2 (W : Wo n cs es ts ls t) (h : ∀ ic' wi' t', Wo n cs es ts ls t' → J (lo none none none none) (Lc cs m es ts ls ic' wi' t' [])) :
    lawB2 (lo o0 o3 o4 o8) (Lc cs m es ts ls ic wi t []) R J := by
  unfold lawB2
  obtain ⟨hc, he, s, hl, ht⟩ := W
  rcases t with _ | ⟨a, _ | ⟨b, _ | ⟨d, t⟩⟩⟩
  · walk_at "ev"
    refine rec_f (nn (ic, wi)) ?_
    walk_at "ev"
    exact re_go (canonG (g := [])) (h _ _ _ ⟨hc, he, s, hl, ht⟩)
  · walk_at "ev"
    refine rec_f (nn a) ?_
    walk_at "ev"
    exact re_go (l := Lc cs m es ts ls a.1 a.2 [] []) (canonG (g := [])) (h a.1 a.2 [] ⟨hc, he, s, hl, Nat.zero_le _⟩)
  · walk_at "ev"
    refine rec_f (nn b) ?_
    walk_at "ev"
    exact re_go (l := Lc cs m es ts ls b.1 b.2 [a] []) (canonG (g := [])) (h b.1 b.2 [a] ⟨hc, he, s, hl, Nat.le_of_ble_eq_true rfl⟩)
  · exact absurd ht (by simp)
theorem re_first {A B : AObj} {o2 o3 o4 o5 o6 o7 o8 : Option AV} {L : Led} (hL : L = [A, B, .sdict [(3, .obj 3), (4, .at (.int m))], .list (cs.map fun z => .at (.int z))])
    (h : J [none, some (.obj 0), none, none, none, none, none, none, none] [.sdict [(3, .obj 1), (4, .at (.int m))], .list (cs.map fun z => .at (.int z))]) :
    ∃ ks loc' l', ks.Nodup ∧ Paired (RelS ks) loc' [o0, some (.obj 2), o2, o3, o4, o5, o6, o7, o8] ∧ Paired (fun j o' => ∃ o, L[j]? = some o ∧ RelO ks o' o) ks l' ∧ J loc' l' := by
  subst hL
  refine ⟨[2, 3], [none, some (.obj 0), none, none, none, none, none, none, none], [.sdict [(3, .obj 1), (4, .at (.int m))], .list (cs.map fun z => .at (.int z))], by decide, .cons rel_none (.cons (fun x q => ?_) (.cons rel_none (.cons rel_none (.cons rel_none (.cons rel_none (.cons rel_none (.cons rel_none (.cons rel_none .nil)))))))),
    .cons ⟨_, rfl, _, rfl, .cons ⟨rfl, rfl⟩ (.cons ⟨rfl, rfl⟩ .nil)⟩ (.cons ⟨_, rfl, _, rfl, back_map (fun _ => rfl) _⟩ .nil), h⟩
  cases q
  exact ⟨_, rfl, rfl⟩
theorem make_P {D C : AObj} (h : K (.obj 3) [D, C, .attrs [(5, .at (.int 1122867)), (6, .at (.int 4478310)), (7, .obj 4)], .inst 138 2, .dict false []]) : m_P [.at (.int 1122867), .at (.int 4478310)] [D, C] K := by
  walk_at "ev"
  exact h
theorem make_L {a b c d e : AObj} (h : K (.obj 6) [a, b, c, d, e, .attrs [(8, .obj 7), (9, .obj 8)], .inst 180 5, .list [], .dict true []]) : m_L [] [a, b, c, d, e] K := by
  walk_at "ev"
  exact h
theorem make_T {a b c d e f g i j : AObj} (h : K (.obj 10) [a, b, c, d, e, f, g, i, j, .attrs [(10, .at (.bytes [])), (11, .at (.bytes [])), (12, .obj 11)], .inst 74 9, .list []]) : m_T [] [a, b, c, d, e, f, g, i, j] K := by
  walk_at "ev"
  exact h
theorem law_ok {ns : List Int} (hn : ns.length ≤ 63) : d_law [some (.ints ns), none, none, none, none, none, none, none, none] [] (fun r _ => r = .at (.bool true)) (fun _ _ => False) := by
  have sd : DrawOk f_law_draw := draw_ok
  have sD : ∀ (K : KV), (∀ A B (cs : List Int) m, cs.length ≤ 900 → K (.obj 2) [A, B, .sdict [(3, .obj 3), (4, .at (.int m))], .list (cs.map fun z => .at (.int z))]) → f_law_deck [.ints ns] [] K := fun K h => deck hn h
  have s1 : ∀ (n cs m es ts ls ic wi t o0 o3 o4 o8) (R : KV) (J : Loc → Led → Prop), Wo n cs es ts ls t → n ≤ 20 → (∀ cs' m' es' ts' ls' ic' wi' t', Wo (n + 1) cs' es' ts' ls' t' → J (lo none none none none) (Lc cs' m' es' ts' ls' ic' wi' t' [])) → lawB1 (lo o0 o3 o4 o8) (Lc cs m es ts ls ic wi t []) R J :=
    fun n cs m es ts ls ic wi t o0 o3 o4 o8 R J W hn h => law_b1 W hn h
  have s2 : ∀ (n cs m es ts ls ic wi t o0 o3 o4 o8) (R : KV) (J : Loc → Led → Prop), Wo n cs es ts ls t → (∀ ic' wi' t', Wo n cs es ts ls t' → J (lo none none none none) (Lc cs m es ts ls ic' wi' t' [])) → lawB2 (lo o0 o3 o4 o8) (Lc cs m es ts ls ic wi t []) R J :=
    fun n cs m es ts ls ic wi t o0 o3 o4 o8 R J W h => law_b2 W h
  have sE : ∀ (n cs m es ts ls ic wi t o0 o3 o4 o8), Wo n cs es ts ls t → lawE (lo o0 o3 o4 o8) (Lc cs m es ts ls ic wi t []) (fun r _ => r = .at (.bool true)) (fun _ _ => False) := fun n cs m es ts ls ic wi t o0 o3 o4 o8 W => keys_right W.hc fun _ _ _ _ => rfl
  have mP : ∀ (D C : AObj) (K : KV), K (.obj 3) [D, C, .attrs [(5, .at (.int 1122867)), (6, .at (.int 4478310)), (7, .obj 4)], .inst 138 2, .dict false []] → m_P [.at (.int 1122867), .at (.int 4478310)] [D, C] K := fun D C K h => make_P h
  have mL : ∀ (a b c d e : AObj) (K : KV), K (.obj 6) [a, b, c, d, e, .attrs [(8, .obj 7), (9, .obj 8)], .inst 180 5, .list [], .dict true []] → m_L [] [a, b, c, d, e] K := fun a b c d e K h => make_L h
  have mT : ∀ (a b c d e f g i j : AObj) (K : KV), K (.obj 10) [a, b, c, d, e, f, g, i, j, .attrs [(10, .at (.bytes [])), (11, .at (.bytes [])), (12, .obj 11)], .inst 74 9, .list []] → m_T [] [a, b, c, d, e, f, g, i, j] K := fun a b c d e f g i j K h => make_T h
  have tP : ∀ (cs m) (K : KV), K (.at .none) (Lc cs m [] [] [] [116] [116] [] []) → f_T_put [.obj 10, .at (.int 0), .at (.bytes [116])] (Lg cs m [] [] [] [] [] [] [] [] (tt ([116], [116])) [] []) K := fun cs m K h => T_put0 h
  rw [law_den]
  generalize f_law_deck = qd at sD ⊢
  generalize f_law_draw = q at sd ⊢
  generalize m_P = qp at mP ⊢
  generalize m_L = ql at mL ⊢
  generalize m_T = qt at mT ⊢
  generalize f_T_put = qu at tP ⊢
  generalize lawB1 = q1 at s1 ⊢
  generalize lawB2 = q2 at s2 ⊢
  generalize lawE = q3 at sE ⊢
  walk_at "ev"
  refine sD _ fun A B cs m hc => ?_
  walk_at "ev"
  refine re_first rfl ?_
  walk_at "ev"
  refine sd 14 (by decide) hc fun z m' cs' z0 z1 hc' => ?_
  have zz : 0 ≤ 1 + z ∧ 1 + z < 1000 := by omega
  walk_at "ev"
  refine mP _ _ _ ?_
  walk_at "ev"
  refine mL _ _ _ _ _ _ ?_
  walk_at "ev"
  refine mT _ _ _ _ _ _ _ _ _ _ ?_
  walk_at "ev"
  refine tP cs' m' _ ?_
  walk_at "ev"
  have W0 : Wo 0 cs' [] [] [] [] := ⟨hc', Nat.le_refl _, ⟨.nil, .nil, fun _ m => nomatch m⟩, Nat.zero_le _, Nat.zero_le _⟩
  refine loop_R (fun i loc l => i ≤ (1 + z).toNat ∧ ∃ cs m es ts ls ic wi t o0 o3 o4 o8, Wo i cs es ts ls t ∧ loc = lo o0 o3 o4 o8 ∧ l = Lc cs m es ts ls ic wi t []) (fun i loc l h => h.1) ⟨Nat.zero_le _, cs', m', [], [], [], [116], [116], [], none, none, some (.at (.int (1 + z))), none, W0, rfl, rfl⟩ ?_ ?_
  · rintro loc l ⟨-, cs, m, es, ts, ls, ic, wi, t, o0, o3, o4, o8, W, rfl, rfl⟩
    walk_at "ev"
    refine loop_R (fun i loc l => i ≤ 3 ∧ ∃ ic wi t o0 o3 o4 o8, Wo (1 + z).toNat cs es ts ls t ∧ loc = lo o0 o3 o4 o8 ∧ l = Lc cs m es ts ls ic wi t []) (fun i loc l h => h.1) ⟨Nat.zero_le _, ic, wi, t, o0, o3, o4, o8, W, rfl, rfl⟩ ?_ ?_
    · rintro loc l ⟨-, ic, wi, t, o0, o3, o4, o8, W, rfl, rfl⟩
      exact sE _ _ _ _ _ _ _ _ _ _ _ _ _ W
    · rintro i loc l hi ⟨-, ic, wi, t, o0, o3, o4, o8, W, rfl, rfl⟩
      exact s2 _ _ _ _ _ _ _ _ _ o0 _ o4 o8 _ _ W fun ic' wi' t' W' => ⟨hi, ic', wi', t', none, none, none, none, W', rfl, rfl⟩
  · rintro i loc l hi ⟨-, cs, m, es, ts, ls, ic, wi, t, o0, o3, o4, o8, W, rfl, rfl⟩
    exact s1 i _ _ _ _ _ _ _ _ o0 _ o4 o8 _ _ W (by omega) fun cs' m' es' ts' ls' ic' wi' t' W' => ⟨hi, cs', m', es', ts', ls', ic', wi', t', none, none, none, none, W', rfl, rfl⟩
end
end Og
end

section
open PySem PySem.W PySem.Calls PyProof.Rows
set_option Elab.async false
set_option linter.unusedVariables false
set_option maxRecDepth 100000
namespace Og
abbrev pw : Program := PySem.Challenge.pw_og0242_01
def stAt (i : Nat) : Stmt := (pw.main.body[i]?).getD (.Pass ⟨0, 0, 0, 0⟩)
def inCls (s : Stmt) (j : Nat) : Stmt := match s with
  | .ClassDef _ _ _ b _ _ _ _ _ _ _ => (b[j]?).getD (.Pass ⟨0, 0, 0, 0⟩)
  | _ => .Pass ⟨0, 0, 0, 0⟩
def fdOf (s : Stmt) (q : Str) (dV pm : Value) (cd : Addr) : FuncData := match s with
  | .FunctionDef name args body _ _ _ scope _ _ _ => { name, qualname := q, params := args, body := .stmts body, scope, globals := mainGlobals, closure := [], defaults := dV, kwdefaults := .none, doc := .none, pyModule := pm, annotations := none, code := .ref cd, closureTuple := .none, builtins := builtinsNs }
  | _ => { name := q, qualname := q, params := { posonlyargs := [], args := [], vararg := none, kwonlyargs := [], kw_defaults := [], kwarg := none, defaults := [] }, body := .stmts [], scope := { kind := .module, names := [], isGenerator := false, isCoroutine := false }, globals := 0, closure := [], defaults := dV, kwdefaults := .none }
def mkFn (s : Stmt) (q : Str) (dV pm : Value) (cd : Addr) : Obj := { cls := .type "function", data := .func (fdOf s q dV pm cd) }
noncomputable def hk (P : Params) : Frag := [
  (1, { cls := Value.type "dict", data := Data.dict #[{ hash := PyData.keyHash P (Str.ofString "builtins"), key := Value.str (Str.ofString "builtins") 162, val := Value.ref 4 }, { hash := PyData.keyHash P (Str.ofString "__main__"), key := Value.str (Str.ofString "__main__") 163, val := Value.ref 5 }] 2 }),
  (2, { cls := Value.none, data := Data.dict #[] }),
 (3, { cls := Value.type "dict", data := Data.dict #[{ hash := PyData.keyHash P (Str.ofString "__name__"), key := Value.str (Str.ofString "__name__") 165, val := Value.str (Str.ofString "law_og0242_01") 457 }, { hash := PyData.keyHash P (Str.ofString "__doc__"), key := Value.str (Str.ofString "__doc__") 166, val := Value.none }, { hash := PyData.keyHash P (Str.ofString "__package__"), key := Value.str (Str.ofString "__package__") 167, val := Value.none }, { hash := PyData.keyHash P (Str.ofString "__loader__"), key := Value.str (Str.ofString "__loader__") 168, val := Value.builtin "__main__.__loader__#opaque" }, { hash := PyData.keyHash P (Str.ofString "__spec__"), key := Value.str (Str.ofString "__spec__") 169, val := Value.none }, { hash := PyData.keyHash P (Str.ofString "__annotations__"), key := Value.str (Str.ofString "__annotations__") 170, val := Value.ref 6 }, { hash := PyData.keyHash P (Str.ofString "__builtins__"), key := Value.str (Str.ofString "__builtins__") 171, val := Value.ref 4 }, { hash := PyData.keyHash P (Str.ofString "__file__"), key := Value.str (Str.ofString "__file__") 173, val := Value.str (Str.ofString "/claim/cut.py") 172 }, { hash := PyData.keyHash P (Str.ofString "__cached__"), key := Value.str (Str.ofString "__cached__") 174, val := Value.none }, { hash := PyData.keyHash P (Str.ofString "DIRECT"), key := Value.str (Str.ofString "DIRECT") 190, val := Value.int 16777216 189 }, { hash := PyData.keyHash P (Str.ofString "FIRST_CUBE"), key := Value.str (Str.ofString "FIRST_CUBE") 194, val := Value.int 16 193 }, { hash := PyData.keyHash P (Str.ofString "FIRST_GRAY"), key := Value.str (Str.ofString "FIRST_GRAY") 196, val := Value.int 232 195 }, { hash := PyData.keyHash P (Str.ofString "CUBE_LEVELS"), key := Value.str (Str.ofString "CUBE_LEVELS") 203, val := Value.ref 15 }, { hash := PyData.keyHash P (Str.ofString "first_sixteen"), key := Value.str (Str.ofString "first_sixteen") 209, val := Value.ref 22 }, { hash := PyData.keyHash P (Str.ofString "rgb_number"), key := Value.str (Str.ofString "rgb_number") 218, val := Value.ref 29 }, { hash := PyData.keyHash P (Str.ofString "palette_rgb"), key := Value.str (Str.ofString "palette_rgb") 227, val := Value.ref 36 }, { hash := PyData.keyHash P (Str.ofString "ICON_TITLE"), key := Value.str (Str.ofString "ICON_TITLE") 231, val := Value.int 1 230 }, { hash := PyData.keyHash P (Str.ofString "WINDOW_TITLE"), key := Value.str (Str.ofString "WINDOW_TITLE") 233, val := Value.int 2 232 }, { hash := PyData.keyHash P (Str.ofString "PALETTE_SIZE"), key := Value.str (Str.ofString "PALETTE_SIZE") 235, val := Value.int 256 234 }, { hash := PyData.keyHash P (Str.ofString "SPECIAL_SIZE"), key := Value.str (Str.ofString "SPECIAL_SIZE") 237, val := Value.int 5 236 }, { hash := PyData.keyHash P (Str.ofString "FIRST_DYNAMIC"), key := Value.str (Str.ofString "FIRST_DYNAMIC") 239, val := Value.int 10 238 }, { hash := PyData.keyHash P (Str.ofString "SELECTIONS"), key := Value.str (Str.ofString "SELECTIONS") 241, val := Value.bytes #[99, 112, 113, 115, 48, 49, 50, 51, 52, 53, 54, 55] 240 }, { hash := PyData.keyHash P (Str.ofString "Titles"), key := Value.str (Str.ofString "Titles") 298, val := Value.ref 74 }, { hash := PyData.keyHash P (Str.ofString "Palette"), key := Value.str (Str.ofString "Palette") 384, val := Value.ref 138 }, { hash := PyData.keyHash P (Str.ofString "Links"), key := Value.str (Str.ofString "Links") 439, val := Value.ref 180 }, { hash := PyData.keyHash P (Str.ofString "osc_palette_key"), key := Value.str (Str.ofString "osc_palette_key") 447, val := Value.ref 191 }, { hash := PyData.keyHash P (Str.ofString "osc_selections"), key := Value.str (Str.ofString "osc_selections") 456, val := Value.ref 198 }, { hash := PyData.keyHash P (Str.ofString "_law_keys"), key := Value.str (Str.ofString "_law_keys") 485, val := Value.ref 212 }, { hash := PyData.keyHash P (Str.ofString "_law_rgbs"), key := Value.str (Str.ofString "_law_rgbs") 491, val := Value.ref 213 }, { hash := PyData.keyHash P (Str.ofString "_law_ids"), key := Value.str (Str.ofString "_law_ids") 495, val := Value.ref 214 }, { hash := PyData.keyHash P (Str.ofString "_law_addresses"), key := Value.str (Str.ofString "_law_addresses") 499, val := Value.ref 215 }, { hash := PyData.keyHash P (Str.ofString "_law_deck"), key := Value.str (Str.ofString "_law_deck") 505, val := Value.ref 220 }, { hash := PyData.keyHash P (Str.ofString "_law_draw"), key := Value.str (Str.ofString "_law_draw") 513, val := Value.ref 227 }, { hash := PyData.keyHash P (Str.ofString "_law_cube"), key := Value.str (Str.ofString "_law_cube") 522, val := Value.ref 234 }, { hash := PyData.keyHash P (Str.ofString "_law_first"), key := Value.str (Str.ofString "_law_first") 530, val := Value.ref 241 }, { hash := PyData.keyHash P (Str.ofString "_law_coloured"), key := Value.str (Str.ofString "_law_coloured") 536, val := Value.ref 246 }, { hash := PyData.keyHash P (Str.ofString "_law_palette_right"), key := Value.str (Str.ofString "_law_palette_right") 547, val := Value.ref 253 }, { hash := PyData.keyHash P (Str.ofString "_law_link_right"), key := Value.str (Str.ofString "_law_link_right") 560, val := Value.ref 260 }, { hash := PyData.keyHash P (Str.ofString "_law_titled"), key := Value.str (Str.ofString "_law_titled") 574, val := Value.ref 267 }, { hash := PyData.keyHash P (Str.ofString "_law_keys_right"), key := Value.str (Str.ofString "_law_keys_right") 580, val := Value.ref 272 }, { hash := PyData.keyHash P (Str.ofString "law"), key := Value.str (Str.ofString "law") 595, val := Value.ref 279 }] 41 }),
 (15, { cls := Value.type "tuple", data := Data.seq #[Value.int 0 197, Value.int 95 198, Value.int 135 199, Value.int 175 200, Value.int 215 201, Value.int 255 202] }),
 (21, { cls := Value.type "code", data := Data.fields #[Value.str (Str.ofString "first_sixteen") 204, Value.str (Str.ofString "first_sixteen") 205, Value.str (Str.ofString "/claim/cut.py") 206, Value.int 6 0, Value.int 0 0, Value.int 0 0, Value.int 0 0, Value.int 3 0, Value.ref 16, Value.bool true, Value.int 181 0, Value.ref 17, Value.none, Value.ref 18, Value.ref 19, Value.ref 20, Value.int 207 0, Value.int 6 0, Value.str (Str.ofString "/claim/cut.py") 208] }),
 (22, mkFn (stAt 5) "first_sixteen" (Value.none) (Value.str (Str.ofString "termcore.pens") 191) 21),
 (28, { cls := Value.type "code", data := Data.fields #[Value.str (Str.ofString "rgb_number") 210, Value.str (Str.ofString "rgb_number") 211, Value.str (Str.ofString "/claim/cut.py") 212, Value.int 8 0, Value.int 3 0, Value.int 0 0, Value.int 0 0, Value.int 3 0, Value.ref 23, Value.bool true, Value.int 181 0, Value.ref 24, Value.none, Value.ref 25, Value.ref 26, Value.ref 27, Value.int 216 0, Value.int 8 0, Value.str (Str.ofString "/claim/cut.py") 217] }),
 (29, mkFn (stAt 6) "rgb_number" (Value.none) (Value.str (Str.ofString "termcore.pens") 191) 28),
 (35, { cls := Value.type "code", data := Data.fields #[Value.str (Str.ofString "palette_rgb") 219, Value.str (Str.ofString "palette_rgb") 220, Value.str (Str.ofString "/claim/cut.py") 221, Value.int 10 0, Value.int 1 0, Value.int 0 0, Value.int 0 0, Value.int 3 0, Value.ref 30, Value.bool true, Value.int 181 0, Value.ref 31, Value.none, Value.ref 32, Value.ref 33, Value.ref 34, Value.int 225 0, Value.int 10 0, Value.str (Str.ofString "/claim/cut.py") 226] }),
 (36, mkFn (stAt 7) "palette_rgb" (Value.none) (Value.str (Str.ofString "termcore.pens") 191) 35),
 (49, { cls := Value.type "code", data := Data.fields #[Value.str (Str.ofString "__init__") 254, Value.str (Str.ofString "Titles.__init__") 255, Value.str (Str.ofString "/claim/cut.py") 256, Value.int 27 0, Value.int 1 0, Value.int 0 0, Value.int 0 0, Value.int 3 0, Value.ref 44, Value.bool true, Value.int 181 0, Value.ref 45, Value.none, Value.ref 46, Value.ref 47, Value.ref 48, Value.int 258 0, Value.int 27 0, Value.str (Str.ofString "/claim/cut.py") 259] }),
 (50, mkFn (inCls (stAt 15) 0) "Titles.__init__" (Value.none) (Value.str (Str.ofString "termcore.oscops") 228) 49),
 (56, { cls := Value.type "code", data := Data.fields #[Value.str (Str.ofString "put") 261, Value.str (Str.ofString "Titles.put") 262, Value.str (Str.ofString "/claim/cut.py") 263, Value.int 32 0, Value.int 3 0, Value.int 0 0, Value.int 0 0, Value.int 3 0, Value.ref 51, Value.bool true, Value.int 181 0, Value.ref 52, Value.none, Value.ref 53, Value.ref 54, Value.ref 55, Value.int 267 0, Value.int 32 0, Value.str (Str.ofString "/claim/cut.py") 268] }),
 (57, mkFn (inCls (stAt 15) 1) "Titles.put" (Value.none) (Value.str (Str.ofString "termcore.oscops") 228) 56),
 (63, { cls := Value.type "code", data := Data.fields #[Value.str (Str.ofString "push") 270, Value.str (Str.ofString "Titles.push") 271, Value.str (Str.ofString "/claim/cut.py") 272, Value.int 38 0, Value.int 2 0, Value.int 0 0, Value.int 0 0, Value.int 3 0, Value.ref 58, Value.bool true, Value.int 181 0, Value.ref 59, Value.none, Value.ref 60, Value.ref 61, Value.ref 62, Value.int 275 0, Value.int 38 0, Value.str (Str.ofString "/claim/cut.py") 276] }),
 (64, mkFn (inCls (stAt 15) 2) "Titles.push" (Value.none) (Value.str (Str.ofString "termcore.oscops") 228) 63),
 (70, { cls := Value.type "code", data := Data.fields #[Value.str (Str.ofString "pop") 278, Value.str (Str.ofString "Titles.pop") 279, Value.str (Str.ofString "/claim/cut.py") 280, Value.int 43 0, Value.int 2 0, Value.int 0 0, Value.int 0 0, Value.int 3 0, Value.ref 65, Value.bool true, Value.int 181 0, Value.ref 66, Value.none, Value.ref 67, Value.ref 68, Value.ref 69, Value.int 285 0, Value.int 43 0, Value.str (Str.ofString "/claim/cut.py") 286] }),
 (71, mkFn (inCls (stAt 15) 3) "Titles.pop" (Value.none) (Value.str (Str.ofString "termcore.oscops") 228) 70),
 (73, { cls := Value.type "dict", data := Data.dict #[{ hash := PyData.keyHash P (Str.ofString "__module__"), key := Value.str (Str.ofString "__module__") 249, val := Value.str (Str.ofString "termcore.oscops") 228 }, { hash := PyData.keyHash P (Str.ofString "__firstlineno__"), key := Value.str (Str.ofString "__firstlineno__") 253, val := Value.int 25 252 }, { hash := PyData.keyHash P (Str.ofString "__init__"), key := Value.str (Str.ofString "__init__") 260, val := Value.ref 50 }, { hash := PyData.keyHash P (Str.ofString "put"), key := Value.str (Str.ofString "put") 269, val := Value.ref 57 }, { hash := PyData.keyHash P (Str.ofString "push"), key := Value.str (Str.ofString "push") 277, val := Value.ref 64 }, { hash := PyData.keyHash P (Str.ofString "pop"), key := Value.str (Str.ofString "pop") 287, val := Value.ref 71 }, { hash := PyData.keyHash P (Str.ofString "__static_attributes__"), key := Value.str (Str.ofString "__static_attributes__") 291, val := Value.ref 72 }, { hash := PyData.keyHash P (Str.ofString "__dict__"), key := Value.str (Str.ofString "__dict__") 293, val := Value.ref 75 }, { hash := PyData.keyHash P (Str.ofString "__weakref__"), key := Value.str (Str.ofString "__weakref__") 295, val := Value.ref 76 }, { hash := PyData.keyHash P (Str.ofString "__doc__"), key := Value.str (Str.ofString "__doc__") 296, val := Value.none }] 4 }),
 (74, { cls := Value.type "type", data := Data.cls { name := Str.ofString "Titles", bases := [Value.type "object"], mro := [Value.ref 74, Value.type "object"], ns := 73, qualname := Str.ofString "Titles" }, slots := #[none, none, some (Value.str (Str.ofString "Titles") 242), some (Value.str (Str.ofString "Titles") 250), some (Value.builtin "object.__new__"), some (Value.bool true)] }),
 (86, { cls := Value.type "tuple", data := Data.seq #[Value.int 15066597 311, Value.int 0 312] }),
 (92, { cls := Value.type "code", data := Data.fields #[Value.str (Str.ofString "__init__") 313, Value.str (Str.ofString "Palette.__init__") 314, Value.str (Str.ofString "/claim/cut.py") 315, Value.int 52 0, Value.int 3 0, Value.int 0 0, Value.int 0 0, Value.int 3 0, Value.ref 87, Value.bool true, Value.int 181 0, Value.ref 88, Value.none, Value.ref 89, Value.ref 90, Value.ref 91, Value.int 319 0, Value.int 52 0, Value.str (Str.ofString "/claim/cut.py") 320] }),
 (93, mkFn (inCls (stAt 16) 0) "Palette.__init__" (Value.ref 86) (Value.str (Str.ofString "termcore.oscops") 228) 92),
 (99, { cls := Value.type "code", data := Data.fields #[Value.str (Str.ofString "first") 322, Value.str (Str.ofString "Palette.first") 323, Value.str (Str.ofString "/claim/cut.py") 324, Value.int 57 0, Value.int 2 0, Value.int 0 0, Value.int 0 0, Value.int 3 0, Value.ref 94, Value.bool true, Value.int 181 0, Value.ref 95, Value.none, Value.ref 96, Value.ref 97, Value.ref 98, Value.int 328 0, Value.int 57 0, Value.str (Str.ofString "/claim/cut.py") 329] }),
 (100, mkFn (inCls (stAt 16) 1) "Palette.first" (Value.none) (Value.str (Str.ofString "termcore.oscops") 228) 99),
 (106, { cls := Value.type "code", data := Data.fields #[Value.str (Str.ofString "rgb") 331, Value.str (Str.ofString "Palette.rgb") 332, Value.str (Str.ofString "/claim/cut.py") 333, Value.int 63 0, Value.int 2 0, Value.int 0 0, Value.int 0 0, Value.int 3 0, Value.ref 101, Value.bool true, Value.int 181 0, Value.ref 102, Value.none, Value.ref 103, Value.ref 104, Value.ref 105, Value.int 336 0, Value.int 63 0, Value.str (Str.ofString "/claim/cut.py") 337] }),
 (107, mkFn (inCls (stAt 16) 2) "Palette.rgb" (Value.none) (Value.str (Str.ofString "termcore.oscops") 228) 106),
 (113, { cls := Value.type "code", data := Data.fields #[Value.str (Str.ofString "put") 339, Value.str (Str.ofString "Palette.put") 340, Value.str (Str.ofString "/claim/cut.py") 341, Value.int 66 0, Value.int 3 0, Value.int 0 0, Value.int 0 0, Value.int 3 0, Value.ref 108, Value.bool true, Value.int 181 0, Value.ref 109, Value.none, Value.ref 110, Value.ref 111, Value.ref 112, Value.int 345 0, Value.int 66 0, Value.str (Str.ofString "/claim/cut.py") 346] }),
 (114, mkFn (inCls (stAt 16) 3) "Palette.put" (Value.none) (Value.str (Str.ofString "termcore.oscops") 228) 113),
 (120, { cls := Value.type "code", data := Data.fields #[Value.str (Str.ofString "put_back") 348, Value.str (Str.ofString "Palette.put_back") 349, Value.str (Str.ofString "/claim/cut.py") 350, Value.int 71 0, Value.int 2 0, Value.int 0 0, Value.int 0 0, Value.int 3 0, Value.ref 115, Value.bool true, Value.int 181 0, Value.ref 116, Value.none, Value.ref 117, Value.ref 118, Value.ref 119, Value.int 353 0, Value.int 71 0, Value.str (Str.ofString "/claim/cut.py") 354] }),
 (121, mkFn (inCls (stAt 16) 4) "Palette.put_back" (Value.none) (Value.str (Str.ofString "termcore.oscops") 228) 120),
 (127, { cls := Value.type "code", data := Data.fields #[Value.str (Str.ofString "put_back_all") 356, Value.str (Str.ofString "Palette.put_back_all") 357, Value.str (Str.ofString "/claim/cut.py") 358, Value.int 75 0, Value.int 2 0, Value.int 0 0, Value.int 0 0, Value.int 3 0, Value.ref 122, Value.bool true, Value.int 181 0, Value.ref 123, Value.none, Value.ref 124, Value.ref 125, Value.ref 126, Value.int 362 0, Value.int 75 0, Value.str (Str.ofString "/claim/cut.py") 363] }),
 (128, mkFn (inCls (stAt 16) 5) "Palette.put_back_all" (Value.none) (Value.str (Str.ofString "termcore.oscops") 228) 127),
 (134, { cls := Value.type "code", data := Data.fields #[Value.str (Str.ofString "colour_rgb") 365, Value.str (Str.ofString "Palette.colour_rgb") 366, Value.str (Str.ofString "/claim/cut.py") 367, Value.int 80 0, Value.int 3 0, Value.int 0 0, Value.int 0 0, Value.int 3 0, Value.ref 129, Value.bool true, Value.int 181 0, Value.ref 130, Value.none, Value.ref 131, Value.ref 132, Value.ref 133, Value.int 371 0, Value.int 80 0, Value.str (Str.ofString "/claim/cut.py") 372] }),
 (135, mkFn (inCls (stAt 16) 6) "Palette.colour_rgb" (Value.none) (Value.str (Str.ofString "termcore.oscops") 228) 134),
 (137, { cls := Value.type "dict", data := Data.dict #[{ hash := PyData.keyHash P (Str.ofString "__module__"), key := Value.str (Str.ofString "__module__") 306, val := Value.str (Str.ofString "termcore.oscops") 228 }, { hash := PyData.keyHash P (Str.ofString "__firstlineno__"), key := Value.str (Str.ofString "__firstlineno__") 310, val := Value.int 50 309 }, { hash := PyData.keyHash P (Str.ofString "__init__"), key := Value.str (Str.ofString "__init__") 321, val := Value.ref 93 }, { hash := PyData.keyHash P (Str.ofString "first"), key := Value.str (Str.ofString "first") 330, val := Value.ref 100 }, { hash := PyData.keyHash P (Str.ofString "rgb"), key := Value.str (Str.ofString "rgb") 338, val := Value.ref 107 }, { hash := PyData.keyHash P (Str.ofString "put"), key := Value.str (Str.ofString "put") 347, val := Value.ref 114 }, { hash := PyData.keyHash P (Str.ofString "put_back"), key := Value.str (Str.ofString "put_back") 355, val := Value.ref 121 }, { hash := PyData.keyHash P (Str.ofString "put_back_all"), key := Value.str (Str.ofString "put_back_all") 364, val := Value.ref 128 }, { hash := PyData.keyHash P (Str.ofString "colour_rgb"), key := Value.str (Str.ofString "colour_rgb") 373, val := Value.ref 135 }, { hash := PyData.keyHash P (Str.ofString "__static_attributes__"), key := Value.str (Str.ofString "__static_attributes__") 377, val := Value.ref 136 }, { hash := PyData.keyHash P (Str.ofString "__dict__"), key := Value.str (Str.ofString "__dict__") 379, val := Value.ref 139 }, { hash := PyData.keyHash P (Str.ofString "__weakref__"), key := Value.str (Str.ofString "__weakref__") 381, val := Value.ref 140 }, { hash := PyData.keyHash P (Str.ofString "__doc__"), key := Value.str (Str.ofString "__doc__") 382, val := Value.none }] 4 }),
 (138, { cls := Value.type "type", data := Data.cls { name := Str.ofString "Palette", bases := [Value.type "object"], mro := [Value.ref 138, Value.type "object"], ns := 137, qualname := Str.ofString "Palette" }, slots := #[none, none, some (Value.str (Str.ofString "Palette") 299), some (Value.str (Str.ofString "Palette") 307), some (Value.builtin "object.__new__"), some (Value.bool true)] }),
 (155, { cls := Value.type "code", data := Data.fields #[Value.str (Str.ofString "__init__") 397, Value.str (Str.ofString "Links.__init__") 398, Value.str (Str.ofString "/claim/cut.py") 399, Value.int 88 0, Value.int 1 0, Value.int 0 0, Value.int 0 0, Value.int 3 0, Value.ref 150, Value.bool true, Value.int 181 0, Value.ref 151, Value.none, Value.ref 152, Value.ref 153, Value.ref 154, Value.int 401 0, Value.int 88 0, Value.str (Str.ofString "/claim/cut.py") 402] }),
 (156, mkFn (inCls (stAt 17) 0) "Links.__init__" (Value.none) (Value.str (Str.ofString "termcore.oscops") 228) 155),
 (162, { cls := Value.type "code", data := Data.fields #[Value.str (Str.ofString "number_of_link") 404, Value.str (Str.ofString "Links.number_of_link") 405, Value.str (Str.ofString "/claim/cut.py") 406, Value.int 92 0, Value.int 4 0, Value.int 0 0, Value.int 0 0, Value.int 3 0, Value.ref 157, Value.bool true, Value.int 181 0, Value.ref 158, Value.none, Value.ref 159, Value.ref 160, Value.ref 161, Value.int 411 0, Value.int 92 0, Value.str (Str.ofString "/claim/cut.py") 412] }),
 (163, mkFn (inCls (stAt 17) 1) "Links.number_of_link" (Value.none) (Value.str (Str.ofString "termcore.oscops") 228) 162),
 (169, { cls := Value.type "code", data := Data.fields #[Value.str (Str.ofString "address") 414, Value.str (Str.ofString "Links.address") 415, Value.str (Str.ofString "/claim/cut.py") 416, Value.int 100 0, Value.int 2 0, Value.int 0 0, Value.int 0 0, Value.int 3 0, Value.ref 164, Value.bool true, Value.int 181 0, Value.ref 165, Value.none, Value.ref 166, Value.ref 167, Value.ref 168, Value.int 419 0, Value.int 100 0, Value.str (Str.ofString "/claim/cut.py") 420] }),
 (170, mkFn (inCls (stAt 17) 2) "Links.address" (Value.none) (Value.str (Str.ofString "termcore.oscops") 228) 169),
 (176, { cls := Value.type "code", data := Data.fields #[Value.str (Str.ofString "word") 422, Value.str (Str.ofString "Links.word") 423, Value.str (Str.ofString "/claim/cut.py") 424, Value.int 103 0, Value.int 2 0, Value.int 0 0, Value.int 0 0, Value.int 3 0, Value.ref 171, Value.bool true, Value.int 181 0, Value.ref 172, Value.none, Value.ref 173, Value.ref 174, Value.ref 175, Value.int 427 0, Value.int 103 0, Value.str (Str.ofString "/claim/cut.py") 428] }),
 (177, mkFn (inCls (stAt 17) 3) "Links.word" (Value.none) (Value.str (Str.ofString "termcore.oscops") 228) 176),
 (179, { cls := Value.type "dict", data := Data.dict #[{ hash := PyData.keyHash P (Str.ofString "__module__"), key := Value.str (Str.ofString "__module__") 392, val := Value.str (Str.ofString "termcore.oscops") 228 }, { hash := PyData.keyHash P (Str.ofString "__firstlineno__"), key := Value.str (Str.ofString "__firstlineno__") 396, val := Value.int 86 395 }, { hash := PyData.keyHash P (Str.ofString "__init__"), key := Value.str (Str.ofString "__init__") 403, val := Value.ref 156 }, { hash := PyData.keyHash P (Str.ofString "number_of_link"), key := Value.str (Str.ofString "number_of_link") 413, val := Value.ref 163 }, { hash := PyData.keyHash P (Str.ofString "address"), key := Value.str (Str.ofString "address") 421, val := Value.ref 170 }, { hash := PyData.keyHash P (Str.ofString "word"), key := Value.str (Str.ofString "word") 429, val := Value.ref 177 }, { hash := PyData.keyHash P (Str.ofString "__static_attributes__"), key := Value.str (Str.ofString "__static_attributes__") 432, val := Value.ref 178 }, { hash := PyData.keyHash P (Str.ofString "__dict__"), key := Value.str (Str.ofString "__dict__") 434, val := Value.ref 181 }, { hash := PyData.keyHash P (Str.ofString "__weakref__"), key := Value.str (Str.ofString "__weakref__") 436, val := Value.ref 182 }, { hash := PyData.keyHash P (Str.ofString "__doc__"), key := Value.str (Str.ofString "__doc__") 437, val := Value.none }] 4 }),
 (180, { cls := Value.type "type", data := Data.cls { name := Str.ofString "Links", bases := [Value.type "object"], mro := [Value.ref 180, Value.type "object"], ns := 179, qualname := Str.ofString "Links" }, slots := #[none, none, some (Value.str (Str.ofString "Links") 385), some (Value.str (Str.ofString "Links") 393), some (Value.builtin "object.__new__"), some (Value.bool true)] }),
 (190, { cls := Value.type "code", data := Data.fields #[Value.str (Str.ofString "osc_palette_key") 440, Value.str (Str.ofString "osc_palette_key") 441, Value.str (Str.ofString "/claim/cut.py") 442, Value.int 105 0, Value.int 2 0, Value.int 0 0, Value.int 0 0, Value.int 3 0, Value.ref 185, Value.bool true, Value.int 181 0, Value.ref 186, Value.none, Value.ref 187, Value.ref 188, Value.ref 189, Value.int 445 0, Value.int 105 0, Value.str (Str.ofString "/claim/cut.py") 446] }),
 (191, mkFn (stAt 18) "osc_palette_key" (Value.none) (Value.str (Str.ofString "termcore.oscops") 228) 190),
 (197, { cls := Value.type "code", data := Data.fields #[Value.str (Str.ofString "osc_selections") 448, Value.str (Str.ofString "osc_selections") 449, Value.str (Str.ofString "/claim/cut.py") 450, Value.int 113 0, Value.int 1 0, Value.int 0 0, Value.int 0 0, Value.int 3 0, Value.ref 192, Value.bool true, Value.int 181 0, Value.ref 193, Value.none, Value.ref 194, Value.ref 195, Value.ref 196, Value.int 454 0, Value.int 113 0, Value.str (Str.ofString "/claim/cut.py") 455] }),
 (198, mkFn (stAt 19) "osc_selections" (Value.none) (Value.str (Str.ofString "termcore.oscops") 228) 197),
 (199, { cls := Value.type "tuple", data := Data.seq #[Value.str (Str.ofString "index") 459, Value.int 16 460] }),
 (200, { cls := Value.type "tuple", data := Data.seq #[Value.str (Str.ofString "index") 461, Value.int 196 462] }),
 (201, { cls := Value.type "tuple", data := Data.seq #[Value.str (Str.ofString "index") 463, Value.int 232 464] }),
 (202, { cls := Value.type "tuple", data := Data.seq #[Value.str (Str.ofString "index") 465, Value.int 255 466] }),
 (203, { cls := Value.type "tuple", data := Data.seq #[Value.str (Str.ofString "special") 467, Value.int 0 468] }),
 (204, { cls := Value.type "tuple", data := Data.seq #[Value.str (Str.ofString "special") 469, Value.int 4 470] }),
 (205, { cls := Value.type "tuple", data := Data.seq #[Value.str (Str.ofString "dynamic") 471, Value.int 10 472] }),
 (206, { cls := Value.type "tuple", data := Data.seq #[Value.str (Str.ofString "dynamic") 473, Value.int 11 474] }),
 (207, { cls := Value.type "tuple", data := Data.seq #[Value.str (Str.ofString "dynamic") 475, Value.int 12 476] }),
 (208, { cls := Value.type "tuple", data := Data.seq #[Value.str (Str.ofString "dynamic") 477, Value.int 14 478] }),
 (209, { cls := Value.type "tuple", data := Data.seq #[Value.str (Str.ofString "dynamic") 479, Value.int 16 480] }),
 (210, { cls := Value.type "tuple", data := Data.seq #[Value.str (Str.ofString "dynamic") 481, Value.int 17 482] }),
 (211, { cls := Value.type "tuple", data := Data.seq #[Value.str (Str.ofString "dynamic") 483, Value.int 19 484] }),
 (212, { cls := Value.type "tuple", data := Data.seq #[Value.ref 199, Value.ref 200, Value.ref 201, Value.ref 202, Value.ref 203, Value.ref 204, Value.ref 205, Value.ref 206, Value.ref 207, Value.ref 208, Value.ref 209, Value.ref 210, Value.ref 211] }),
 (213, { cls := Value.type "tuple", data := Data.seq #[Value.int 0 486, Value.int 16777215 487, Value.int 66051 488, Value.int 8421504 489, Value.int 255 490] }),
 (214, { cls := Value.type "tuple", data := Data.seq #[Value.bytes #[] 492, Value.bytes #[97] 493, Value.bytes #[97, 58, 98] 494] }),
 (215, { cls := Value.type "tuple", data := Data.seq #[Value.bytes #[104, 116, 116, 112, 58, 47, 47, 97] 496, Value.bytes #[102, 105, 108, 101, 58, 47, 47, 47, 98] 497, Value.bytes #[120] 498] }),
 (219, { cls := Value.type "code", data := Data.fields #[Value.str (Str.ofString "_law_deck") 500, Value.str (Str.ofString "_law_deck") 501, Value.str (Str.ofString "/claim/cut.py") 502, Value.int 124 0, Value.int 1 0, Value.int 0 0, Value.int 0 0, Value.int 3 0, Value.ref 216, Value.bool true, Value.int 181 0, Value.ref 217, Value.none, Value.none, Value.none, Value.ref 218, Value.int 503 0, Value.int 124 0, Value.str (Str.ofString "/claim/cut.py") 504] }),
 (220, mkFn (stAt 25) "_law_deck" (Value.none) (Value.str (Str.ofString "law_og0242_01") 457) 219),
 (226, { cls := Value.type "code", data := Data.fields #[Value.str (Str.ofString "_law_draw") 506, Value.str (Str.ofString "_law_draw") 507, Value.str (Str.ofString "/claim/cut.py") 508, Value.int 129 0, Value.int 2 0, Value.int 0 0, Value.int 0 0, Value.int 3 0, Value.ref 221, Value.bool true, Value.int 181 0, Value.ref 222, Value.none, Value.ref 223, Value.ref 224, Value.ref 225, Value.int 511 0, Value.int 129 0, Value.str (Str.ofString "/claim/cut.py") 512] }),
 (227, mkFn (stAt 26) "_law_draw" (Value.none) (Value.str (Str.ofString "law_og0242_01") 457) 226),
 (233, { cls := Value.type "code", data := Data.fields #[Value.str (Str.ofString "_law_cube") 514, Value.str (Str.ofString "_law_cube") 515, Value.str (Str.ofString "/claim/cut.py") 516, Value.int 134 0, Value.int 1 0, Value.int 0 0, Value.int 0 0, Value.int 3 0, Value.ref 228, Value.bool true, Value.int 181 0, Value.ref 229, Value.none, Value.ref 230, Value.ref 231, Value.ref 232, Value.int 520 0, Value.int 134 0, Value.str (Str.ofString "/claim/cut.py") 521] }),
 (234, mkFn (stAt 27) "_law_cube" (Value.none) (Value.str (Str.ofString "law_og0242_01") 457) 233),
 (240, { cls := Value.type "code", data := Data.fields #[Value.str (Str.ofString "_law_first") 523, Value.str (Str.ofString "_law_first") 524, Value.str (Str.ofString "/claim/cut.py") 525, Value.int 139 0, Value.int 2 0, Value.int 0 0, Value.int 0 0, Value.int 3 0, Value.ref 235, Value.bool true, Value.int 181 0, Value.ref 236, Value.none, Value.ref 237, Value.ref 238, Value.ref 239, Value.int 528 0, Value.int 139 0, Value.str (Str.ofString "/claim/cut.py") 529] }),
 (241, mkFn (stAt 28) "_law_first" (Value.none) (Value.str (Str.ofString "law_og0242_01") 457) 240),
 (245, { cls := Value.type "code", data := Data.fields #[Value.str (Str.ofString "_law_coloured") 531, Value.str (Str.ofString "_law_coloured") 532, Value.str (Str.ofString "/claim/cut.py") 533, Value.int 143 0, Value.int 4 0, Value.int 0 0, Value.int 0 0, Value.int 3 0, Value.ref 242, Value.bool true, Value.int 181 0, Value.ref 243, Value.none, Value.none, Value.none, Value.ref 244, Value.int 534 0, Value.int 143 0, Value.str (Str.ofString "/claim/cut.py") 535] }),
 (246, mkFn (stAt 29) "_law_coloured" (Value.none) (Value.str (Str.ofString "law_og0242_01") 457) 245),
 (252, { cls := Value.type "code", data := Data.fields #[Value.str (Str.ofString "_law_palette_right") 537, Value.str (Str.ofString "_law_palette_right") 538, Value.str (Str.ofString "/claim/cut.py") 539, Value.int 162 0, Value.int 2 0, Value.int 0 0, Value.int 0 0, Value.int 3 0, Value.ref 247, Value.bool true, Value.int 181 0, Value.ref 248, Value.none, Value.ref 249, Value.ref 250, Value.ref 251, Value.int 545 0, Value.int 162 0, Value.str (Str.ofString "/claim/cut.py") 546] }),
 (253, mkFn (stAt 30) "_law_palette_right" (Value.none) (Value.str (Str.ofString "law_og0242_01") 457) 252),
 (259, { cls := Value.type "code", data := Data.fields #[Value.str (Str.ofString "_law_link_right") 548, Value.str (Str.ofString "_law_link_right") 549, Value.str (Str.ofString "/claim/cut.py") 550, Value.int 173 0, Value.int 3 0, Value.int 0 0, Value.int 0 0, Value.int 3 0, Value.ref 254, Value.bool true, Value.int 181 0, Value.ref 255, Value.none, Value.ref 256, Value.ref 257, Value.ref 258, Value.int 558 0, Value.int 173 0, Value.str (Str.ofString "/claim/cut.py") 559] }),
 (260, mkFn (stAt 31) "_law_link_right" (Value.none) (Value.str (Str.ofString "law_og0242_01") 457) 259),
 (266, { cls := Value.type "code", data := Data.fields #[Value.str (Str.ofString "_law_titled") 561, Value.str (Str.ofString "_law_titled") 562, Value.str (Str.ofString "/claim/cut.py") 563, Value.int 184 0, Value.int 4 0, Value.int 0 0, Value.int 0 0, Value.int 3 0, Value.ref 261, Value.bool true, Value.int 181 0, Value.ref 262, Value.none, Value.ref 263, Value.ref 264, Value.ref 265, Value.int 572 0, Value.int 184 0, Value.str (Str.ofString "/claim/cut.py") 573] }),
 (267, mkFn (stAt 32) "_law_titled" (Value.none) (Value.str (Str.ofString "law_og0242_01") 457) 266),
 (271, { cls := Value.type "code", data := Data.fields #[Value.str (Str.ofString "_law_keys_right") 575, Value.str (Str.ofString "_law_keys_right") 576, Value.str (Str.ofString "/claim/cut.py") 577, Value.int 202 0, Value.int 1 0, Value.int 0 0, Value.int 0 0, Value.int 3 0, Value.ref 268, Value.bool true, Value.int 181 0, Value.ref 269, Value.none, Value.none, Value.none, Value.ref 270, Value.int 578 0, Value.int 202 0, Value.str (Str.ofString "/claim/cut.py") 579] }),
 (272, mkFn (stAt 33) "_law_keys_right" (Value.none) (Value.str (Str.ofString "law_og0242_01") 457) 271),
 (278, { cls := Value.type "code", data := Data.fields #[Value.str (Str.ofString "law") 581, Value.str (Str.ofString "law") 582, Value.str (Str.ofString "/claim/cut.py") 583, Value.int 217 0, Value.int 1 0, Value.int 0 0, Value.int 0 0, Value.int 3 0, Value.ref 273, Value.bool true, Value.int 181 0, Value.ref 274, Value.none, Value.ref 275, Value.ref 276, Value.ref 277, Value.int 593 0, Value.int 217 0, Value.str (Str.ofString "/claim/cut.py") 594] }),
 (279, mkFn (stAt 34) "law" (Value.none) (Value.str (Str.ofString "law_og0242_01") 457) 278)]
def as : List Addr := [1, 2, 3, 15, 21, 22, 28, 29, 35, 36, 49, 50, 56, 57, 63, 64, 70, 71, 73, 74, 86, 92, 93, 99, 100, 106, 107, 113, 114, 120, 121, 127, 128, 134, 135, 137, 138, 155, 156, 162, 163, 169, 170, 176, 177, 179, 180, 190, 191, 197, 198, 199, 200, 201, 202, 203, 204, 205, 206, 207, 208, 209, 210, 211, 212, 213, 214, 215, 219, 220, 226, 227, 233, 234, 240, 241, 245, 246, 252, 253, 259, 260, 266, 267, 271, 272, 278, 279]
abbrev fstOf {α : Type} (q t : α) (h : q = t) : α := q
set_option maxHeartbeats 4000000 in
noncomputable def vw : Program := by
  refine fstOf ?q { pw with main := { pw.main with body := ((pw.main.body.eraseIdx 20).eraseIdx 8).eraseIdx 1 } } ?h
  case h =>
    dsimp only [pw, PySem.Challenge.pw_og0242_01, List.eraseIdx_cons_succ, List.eraseIdx_cons_zero]
    exact rfl
noncomputable def hkH : Hook := kHook hk as (fun _ => by rfl)
end Og
end

section
open PySem PySem.W PySem.Calls PyProof.Rows
set_option Elab.async false
set_option linter.unusedVariables false
set_option genSizeOf false
set_option genInjectivity false
set_option maxRecDepth 100000
namespace Og
def bodyOf (s : Stmt) : List Stmt := match s with
  | .FunctionDef _ _ body _ _ _ _ _ _ _ => body
  | _ => []
def scopeOf (s : Stmt) : Scope := match s with
  | .FunctionDef _ _ _ _ _ _ scope _ _ _ => scope
  | _ => { kind := .module, names := [], isGenerator := false, isCoroutine := false }
noncomputable def b_rgb_number : List Stmt := by
  refine fstOf ?q (bodyOf (stAt 6)) ?h
  case h =>
    dsimp only [bodyOf, inCls, stAt, pw, PySem.Challenge.pw_og0242_01, List.getElem?_cons_succ, List.getElem?_cons_zero, Option.getD_some]
    exact rfl
noncomputable def s_rgb_number : Scope := by
  refine fstOf ?q (scopeOf (stAt 6)) ?h
  case h =>
    dsimp only [scopeOf, inCls, stAt, pw, PySem.Challenge.pw_og0242_01, List.getElem?_cons_succ, List.getElem?_cons_zero, Option.getD_some]
    exact rfl

noncomputable def b_palette_rgb : List Stmt := by
  refine fstOf ?q (bodyOf (stAt 7)) ?h
  case h =>
    dsimp only [bodyOf, inCls, stAt, pw, PySem.Challenge.pw_og0242_01, List.getElem?_cons_succ, List.getElem?_cons_zero, Option.getD_some]
    exact rfl
noncomputable def s_palette_rgb : Scope := by
  refine fstOf ?q (scopeOf (stAt 7)) ?h
  case h =>
    dsimp only [scopeOf, inCls, stAt, pw, PySem.Challenge.pw_og0242_01, List.getElem?_cons_succ, List.getElem?_cons_zero, Option.getD_some]
    exact rfl

noncomputable def b_T_init : List Stmt := by
  refine fstOf ?q (bodyOf (inCls (stAt 15) 0)) ?h
  case h =>
    dsimp only [bodyOf, inCls, stAt, pw, PySem.Challenge.pw_og0242_01, List.getElem?_cons_succ, List.getElem?_cons_zero, Option.getD_some]
    exact rfl
noncomputable def s_T_init : Scope := by
  refine fstOf ?q (scopeOf (inCls (stAt 15) 0)) ?h
  case h =>
    dsimp only [scopeOf, inCls, stAt, pw, PySem.Challenge.pw_og0242_01, List.getElem?_cons_succ, List.getElem?_cons_zero, Option.getD_some]
    exact rfl

noncomputable def b_T_put : List Stmt := by
  refine fstOf ?q (bodyOf (inCls (stAt 15) 1)) ?h
  case h =>
    dsimp only [bodyOf, inCls, stAt, pw, PySem.Challenge.pw_og0242_01, List.getElem?_cons_succ, List.getElem?_cons_zero, Option.getD_some]
    exact rfl
noncomputable def s_T_put : Scope := by
  refine fstOf ?q (scopeOf (inCls (stAt 15) 1)) ?h
  case h =>
    dsimp only [scopeOf, inCls, stAt, pw, PySem.Challenge.pw_og0242_01, List.getElem?_cons_succ, List.getElem?_cons_zero, Option.getD_some]
    exact rfl

noncomputable def b_T_push : List Stmt := by
  refine fstOf ?q (bodyOf (inCls (stAt 15) 2)) ?h
  case h =>
    dsimp only [bodyOf, inCls, stAt, pw, PySem.Challenge.pw_og0242_01, List.getElem?_cons_succ, List.getElem?_cons_zero, Option.getD_some]
    exact rfl
noncomputable def s_T_push : Scope := by
  refine fstOf ?q (scopeOf (inCls (stAt 15) 2)) ?h
  case h =>
    dsimp only [scopeOf, inCls, stAt, pw, PySem.Challenge.pw_og0242_01, List.getElem?_cons_succ, List.getElem?_cons_zero, Option.getD_some]
    exact rfl

noncomputable def b_T_pop : List Stmt := by
  refine fstOf ?q (bodyOf (inCls (stAt 15) 3)) ?h
  case h =>
    dsimp only [bodyOf, inCls, stAt, pw, PySem.Challenge.pw_og0242_01, List.getElem?_cons_succ, List.getElem?_cons_zero, Option.getD_some]
    exact rfl
noncomputable def s_T_pop : Scope := by
  refine fstOf ?q (scopeOf (inCls (stAt 15) 3)) ?h
  case h =>
    dsimp only [scopeOf, inCls, stAt, pw, PySem.Challenge.pw_og0242_01, List.getElem?_cons_succ, List.getElem?_cons_zero, Option.getD_some]
    exact rfl

noncomputable def b_P_init : List Stmt := by
  refine fstOf ?q (bodyOf (inCls (stAt 16) 0)) ?h
  case h =>
    dsimp only [bodyOf, inCls, stAt, pw, PySem.Challenge.pw_og0242_01, List.getElem?_cons_succ, List.getElem?_cons_zero, Option.getD_some]
    exact rfl
noncomputable def s_P_init : Scope := by
  refine fstOf ?q (scopeOf (inCls (stAt 16) 0)) ?h
  case h =>
    dsimp only [scopeOf, inCls, stAt, pw, PySem.Challenge.pw_og0242_01, List.getElem?_cons_succ, List.getElem?_cons_zero, Option.getD_some]
    exact rfl

noncomputable def b_P_first : List Stmt := by
  refine fstOf ?q (bodyOf (inCls (stAt 16) 1)) ?h
  case h =>
    dsimp only [bodyOf, inCls, stAt, pw, PySem.Challenge.pw_og0242_01, List.getElem?_cons_succ, List.getElem?_cons_zero, Option.getD_some]
    exact rfl
noncomputable def s_P_first : Scope := by
  refine fstOf ?q (scopeOf (inCls (stAt 16) 1)) ?h
  case h =>
    dsimp only [scopeOf, inCls, stAt, pw, PySem.Challenge.pw_og0242_01, List.getElem?_cons_succ, List.getElem?_cons_zero, Option.getD_some]
    exact rfl

noncomputable def b_P_rgb : List Stmt := by
  refine fstOf ?q (bodyOf (inCls (stAt 16) 2)) ?h
  case h =>
    dsimp only [bodyOf, inCls, stAt, pw, PySem.Challenge.pw_og0242_01, List.getElem?_cons_succ, List.getElem?_cons_zero, Option.getD_some]
    exact rfl
noncomputable def s_P_rgb : Scope := by
  refine fstOf ?q (scopeOf (inCls (stAt 16) 2)) ?h
  case h =>
    dsimp only [scopeOf, inCls, stAt, pw, PySem.Challenge.pw_og0242_01, List.getElem?_cons_succ, List.getElem?_cons_zero, Option.getD_some]
    exact rfl

noncomputable def b_P_put : List Stmt := by
  refine fstOf ?q (bodyOf (inCls (stAt 16) 3)) ?h
  case h =>
    dsimp only [bodyOf, inCls, stAt, pw, PySem.Challenge.pw_og0242_01, List.getElem?_cons_succ, List.getElem?_cons_zero, Option.getD_some]
    exact rfl
noncomputable def s_P_put : Scope := by
  refine fstOf ?q (scopeOf (inCls (stAt 16) 3)) ?h
  case h =>
    dsimp only [scopeOf, inCls, stAt, pw, PySem.Challenge.pw_og0242_01, List.getElem?_cons_succ, List.getElem?_cons_zero, Option.getD_some]
    exact rfl

noncomputable def b_P_put_back : List Stmt := by
  refine fstOf ?q (bodyOf (inCls (stAt 16) 4)) ?h
  case h =>
    dsimp only [bodyOf, inCls, stAt, pw, PySem.Challenge.pw_og0242_01, List.getElem?_cons_succ, List.getElem?_cons_zero, Option.getD_some]
    exact rfl
noncomputable def s_P_put_back : Scope := by
  refine fstOf ?q (scopeOf (inCls (stAt 16) 4)) ?h
  case h =>
    dsimp only [scopeOf, inCls, stAt, pw, PySem.Challenge.pw_og0242_01, List.getElem?_cons_succ, List.getElem?_cons_zero, Option.getD_some]
    exact rfl

noncomputable def b_P_put_back_all : List Stmt := by
  refine fstOf ?q (bodyOf (inCls (stAt 16) 5)) ?h
  case h =>
    dsimp only [bodyOf, inCls, stAt, pw, PySem.Challenge.pw_og0242_01, List.getElem?_cons_succ, List.getElem?_cons_zero, Option.getD_some]
    exact rfl
noncomputable def s_P_put_back_all : Scope := by
  refine fstOf ?q (scopeOf (inCls (stAt 16) 5)) ?h
  case h =>
    dsimp only [scopeOf, inCls, stAt, pw, PySem.Challenge.pw_og0242_01, List.getElem?_cons_succ, List.getElem?_cons_zero, Option.getD_some]
    exact rfl

noncomputable def b_P_colour_rgb : List Stmt := by
  refine fstOf ?q (bodyOf (inCls (stAt 16) 6)) ?h
  case h =>
    dsimp only [bodyOf, inCls, stAt, pw, PySem.Challenge.pw_og0242_01, List.getElem?_cons_succ, List.getElem?_cons_zero, Option.getD_some]
    exact rfl
noncomputable def s_P_colour_rgb : Scope := by
  refine fstOf ?q (scopeOf (inCls (stAt 16) 6)) ?h
  case h =>
    dsimp only [scopeOf, inCls, stAt, pw, PySem.Challenge.pw_og0242_01, List.getElem?_cons_succ, List.getElem?_cons_zero, Option.getD_some]
    exact rfl

noncomputable def b_L_init : List Stmt := by
  refine fstOf ?q (bodyOf (inCls (stAt 17) 0)) ?h
  case h =>
    dsimp only [bodyOf, inCls, stAt, pw, PySem.Challenge.pw_og0242_01, List.getElem?_cons_succ, List.getElem?_cons_zero, Option.getD_some]
    exact rfl
noncomputable def s_L_init : Scope := by
  refine fstOf ?q (scopeOf (inCls (stAt 17) 0)) ?h
  case h =>
    dsimp only [scopeOf, inCls, stAt, pw, PySem.Challenge.pw_og0242_01, List.getElem?_cons_succ, List.getElem?_cons_zero, Option.getD_some]
    exact rfl

noncomputable def b_L_number_of_link : List Stmt := by
  refine fstOf ?q (bodyOf (inCls (stAt 17) 1)) ?h
  case h =>
    dsimp only [bodyOf, inCls, stAt, pw, PySem.Challenge.pw_og0242_01, List.getElem?_cons_succ, List.getElem?_cons_zero, Option.getD_some]
    exact rfl
noncomputable def s_L_number_of_link : Scope := by
  refine fstOf ?q (scopeOf (inCls (stAt 17) 1)) ?h
  case h =>
    dsimp only [scopeOf, inCls, stAt, pw, PySem.Challenge.pw_og0242_01, List.getElem?_cons_succ, List.getElem?_cons_zero, Option.getD_some]
    exact rfl

noncomputable def b_L_address : List Stmt := by
  refine fstOf ?q (bodyOf (inCls (stAt 17) 2)) ?h
  case h =>
    dsimp only [bodyOf, inCls, stAt, pw, PySem.Challenge.pw_og0242_01, List.getElem?_cons_succ, List.getElem?_cons_zero, Option.getD_some]
    exact rfl
noncomputable def s_L_address : Scope := by
  refine fstOf ?q (scopeOf (inCls (stAt 17) 2)) ?h
  case h =>
    dsimp only [scopeOf, inCls, stAt, pw, PySem.Challenge.pw_og0242_01, List.getElem?_cons_succ, List.getElem?_cons_zero, Option.getD_some]
    exact rfl

noncomputable def b_L_word : List Stmt := by
  refine fstOf ?q (bodyOf (inCls (stAt 17) 3)) ?h
  case h =>
    dsimp only [bodyOf, inCls, stAt, pw, PySem.Challenge.pw_og0242_01, List.getElem?_cons_succ, List.getElem?_cons_zero, Option.getD_some]
    exact rfl
noncomputable def s_L_word : Scope := by
  refine fstOf ?q (scopeOf (inCls (stAt 17) 3)) ?h
  case h =>
    dsimp only [scopeOf, inCls, stAt, pw, PySem.Challenge.pw_og0242_01, List.getElem?_cons_succ, List.getElem?_cons_zero, Option.getD_some]
    exact rfl

noncomputable def b_osc_palette_key : List Stmt := by
  refine fstOf ?q (bodyOf (stAt 18)) ?h
  case h =>
    dsimp only [bodyOf, inCls, stAt, pw, PySem.Challenge.pw_og0242_01, List.getElem?_cons_succ, List.getElem?_cons_zero, Option.getD_some]
    exact rfl
noncomputable def s_osc_palette_key : Scope := by
  refine fstOf ?q (scopeOf (stAt 18)) ?h
  case h =>
    dsimp only [scopeOf, inCls, stAt, pw, PySem.Challenge.pw_og0242_01, List.getElem?_cons_succ, List.getElem?_cons_zero, Option.getD_some]
    exact rfl

noncomputable def b_osc_selections : List Stmt := by
  refine fstOf ?q (bodyOf (stAt 19)) ?h
  case h =>
    dsimp only [bodyOf, inCls, stAt, pw, PySem.Challenge.pw_og0242_01, List.getElem?_cons_succ, List.getElem?_cons_zero, Option.getD_some]
    exact rfl
noncomputable def s_osc_selections : Scope := by
  refine fstOf ?q (scopeOf (stAt 19)) ?h
  case h =>
    dsimp only [scopeOf, inCls, stAt, pw, PySem.Challenge.pw_og0242_01, List.getElem?_cons_succ, List.getElem?_cons_zero, Option.getD_some]
    exact rfl

noncomputable def b_law_deck : List Stmt := by
  refine fstOf ?q (bodyOf (stAt 25)) ?h
  case h =>
    dsimp only [bodyOf, inCls, stAt, pw, PySem.Challenge.pw_og0242_01, List.getElem?_cons_succ, List.getElem?_cons_zero, Option.getD_some]
    exact rfl
noncomputable def s_law_deck : Scope := by
  refine fstOf ?q (scopeOf (stAt 25)) ?h
  case h =>
    dsimp only [scopeOf, inCls, stAt, pw, PySem.Challenge.pw_og0242_01, List.getElem?_cons_succ, List.getElem?_cons_zero, Option.getD_some]
    exact rfl

noncomputable def b_law_draw : List Stmt := by
  refine fstOf ?q (bodyOf (stAt 26)) ?h
  case h =>
    dsimp only [bodyOf, inCls, stAt, pw, PySem.Challenge.pw_og0242_01, List.getElem?_cons_succ, List.getElem?_cons_zero, Option.getD_some]
    exact rfl
noncomputable def s_law_draw : Scope := by
  refine fstOf ?q (scopeOf (stAt 26)) ?h
  case h =>
    dsimp only [scopeOf, inCls, stAt, pw, PySem.Challenge.pw_og0242_01, List.getElem?_cons_succ, List.getElem?_cons_zero, Option.getD_some]
    exact rfl

noncomputable def b_law_cube : List Stmt := by
  refine fstOf ?q (bodyOf (stAt 27)) ?h
  case h =>
    dsimp only [bodyOf, inCls, stAt, pw, PySem.Challenge.pw_og0242_01, List.getElem?_cons_succ, List.getElem?_cons_zero, Option.getD_some]
    exact rfl
noncomputable def s_law_cube : Scope := by
  refine fstOf ?q (scopeOf (stAt 27)) ?h
  case h =>
    dsimp only [scopeOf, inCls, stAt, pw, PySem.Challenge.pw_og0242_01, List.getElem?_cons_succ, List.getElem?_cons_zero, Option.getD_some]
    exact rfl

noncomputable def b_law_first : List Stmt := by
  refine fstOf ?q (bodyOf (stAt 28)) ?h
  case h =>
    dsimp only [bodyOf, inCls, stAt, pw, PySem.Challenge.pw_og0242_01, List.getElem?_cons_succ, List.getElem?_cons_zero, Option.getD_some]
    exact rfl
noncomputable def s_law_first : Scope := by
  refine fstOf ?q (scopeOf (stAt 28)) ?h
  case h =>
    dsimp only [scopeOf, inCls, stAt, pw, PySem.Challenge.pw_og0242_01, List.getElem?_cons_succ, List.getElem?_cons_zero, Option.getD_some]
    exact rfl

noncomputable def b_law_coloured : List Stmt := by
  refine fstOf ?q (bodyOf (stAt 29)) ?h
  case h =>
    dsimp only [bodyOf, inCls, stAt, pw, PySem.Challenge.pw_og0242_01, List.getElem?_cons_succ, List.getElem?_cons_zero, Option.getD_some]
    exact rfl
noncomputable def s_law_coloured : Scope := by
  refine fstOf ?q (scopeOf (stAt 29)) ?h
  case h =>
    dsimp only [scopeOf, inCls, stAt, pw, PySem.Challenge.pw_og0242_01, List.getElem?_cons_succ, List.getElem?_cons_zero, Option.getD_some]
    exact rfl

noncomputable def b_law_palette_right : List Stmt := by
  refine fstOf ?q (bodyOf (stAt 30)) ?h
  case h =>
    dsimp only [bodyOf, inCls, stAt, pw, PySem.Challenge.pw_og0242_01, List.getElem?_cons_succ, List.getElem?_cons_zero, Option.getD_some]
    exact rfl
noncomputable def s_law_palette_right : Scope := by
  refine fstOf ?q (scopeOf (stAt 30)) ?h
  case h =>
    dsimp only [scopeOf, inCls, stAt, pw, PySem.Challenge.pw_og0242_01, List.getElem?_cons_succ, List.getElem?_cons_zero, Option.getD_some]
    exact rfl

noncomputable def b_law_link_right : List Stmt := by
  refine fstOf ?q (bodyOf (stAt 31)) ?h
  case h =>
    dsimp only [bodyOf, inCls, stAt, pw, PySem.Challenge.pw_og0242_01, List.getElem?_cons_succ, List.getElem?_cons_zero, Option.getD_some]
    exact rfl
noncomputable def s_law_link_right : Scope := by
  refine fstOf ?q (scopeOf (stAt 31)) ?h
  case h =>
    dsimp only [scopeOf, inCls, stAt, pw, PySem.Challenge.pw_og0242_01, List.getElem?_cons_succ, List.getElem?_cons_zero, Option.getD_some]
    exact rfl

noncomputable def b_law_titled : List Stmt := by
  refine fstOf ?q (bodyOf (stAt 32)) ?h
  case h =>
    dsimp only [bodyOf, inCls, stAt, pw, PySem.Challenge.pw_og0242_01, List.getElem?_cons_succ, List.getElem?_cons_zero, Option.getD_some]
    exact rfl
noncomputable def s_law_titled : Scope := by
  refine fstOf ?q (scopeOf (stAt 32)) ?h
  case h =>
    dsimp only [scopeOf, inCls, stAt, pw, PySem.Challenge.pw_og0242_01, List.getElem?_cons_succ, List.getElem?_cons_zero, Option.getD_some]
    exact rfl

noncomputable def b_law_keys_right : List Stmt := by
  refine fstOf ?q (bodyOf (stAt 33)) ?h
  case h =>
    dsimp only [bodyOf, inCls, stAt, pw, PySem.Challenge.pw_og0242_01, List.getElem?_cons_succ, List.getElem?_cons_zero, Option.getD_some]
    exact rfl
noncomputable def s_law_keys_right : Scope := by
  refine fstOf ?q (scopeOf (stAt 33)) ?h
  case h =>
    dsimp only [scopeOf, inCls, stAt, pw, PySem.Challenge.pw_og0242_01, List.getElem?_cons_succ, List.getElem?_cons_zero, Option.getD_some]
    exact rfl

noncomputable def b_law : List Stmt := by
  refine fstOf ?q (bodyOf (stAt 34)) ?h
  case h =>
    dsimp only [bodyOf, inCls, stAt, pw, PySem.Challenge.pw_og0242_01, List.getElem?_cons_succ, List.getElem?_cons_zero, Option.getD_some]
    exact rfl
noncomputable def s_law : Scope := by
  refine fstOf ?q (scopeOf (stAt 34)) ?h
  case h =>
    dsimp only [scopeOf, inCls, stAt, pw, PySem.Challenge.pw_og0242_01, List.getElem?_cons_succ, List.getElem?_cons_zero, Option.getD_some]
    exact rfl
abbrev fd_rgb_number : FuncData := fdOf (stAt 6) "rgb_number" (Value.none) (Value.str (Str.ofString "termcore.pens") 191) 28
abbrev fd_palette_rgb : FuncData := fdOf (stAt 7) "palette_rgb" (Value.none) (Value.str (Str.ofString "termcore.pens") 191) 35
abbrev fd_T_init : FuncData := fdOf (inCls (stAt 15) 0) "Titles.__init__" (Value.none) (Value.str (Str.ofString "termcore.oscops") 228) 49
abbrev fd_T_put : FuncData := fdOf (inCls (stAt 15) 1) "Titles.put" (Value.none) (Value.str (Str.ofString "termcore.oscops") 228) 56
abbrev fd_T_push : FuncData := fdOf (inCls (stAt 15) 2) "Titles.push" (Value.none) (Value.str (Str.ofString "termcore.oscops") 228) 63
abbrev fd_T_pop : FuncData := fdOf (inCls (stAt 15) 3) "Titles.pop" (Value.none) (Value.str (Str.ofString "termcore.oscops") 228) 70
abbrev fd_P_init : FuncData := fdOf (inCls (stAt 16) 0) "Palette.__init__" (Value.ref 86) (Value.str (Str.ofString "termcore.oscops") 228) 92
abbrev fd_P_first : FuncData := fdOf (inCls (stAt 16) 1) "Palette.first" (Value.none) (Value.str (Str.ofString "termcore.oscops") 228) 99
abbrev fd_P_rgb : FuncData := fdOf (inCls (stAt 16) 2) "Palette.rgb" (Value.none) (Value.str (Str.ofString "termcore.oscops") 228) 106
abbrev fd_P_put : FuncData := fdOf (inCls (stAt 16) 3) "Palette.put" (Value.none) (Value.str (Str.ofString "termcore.oscops") 228) 113
abbrev fd_P_put_back : FuncData := fdOf (inCls (stAt 16) 4) "Palette.put_back" (Value.none) (Value.str (Str.ofString "termcore.oscops") 228) 120
abbrev fd_P_put_back_all : FuncData := fdOf (inCls (stAt 16) 5) "Palette.put_back_all" (Value.none) (Value.str (Str.ofString "termcore.oscops") 228) 127
abbrev fd_P_colour_rgb : FuncData := fdOf (inCls (stAt 16) 6) "Palette.colour_rgb" (Value.none) (Value.str (Str.ofString "termcore.oscops") 228) 134
abbrev fd_L_init : FuncData := fdOf (inCls (stAt 17) 0) "Links.__init__" (Value.none) (Value.str (Str.ofString "termcore.oscops") 228) 155
abbrev fd_L_number_of_link : FuncData := fdOf (inCls (stAt 17) 1) "Links.number_of_link" (Value.none) (Value.str (Str.ofString "termcore.oscops") 228) 162
abbrev fd_L_address : FuncData := fdOf (inCls (stAt 17) 2) "Links.address" (Value.none) (Value.str (Str.ofString "termcore.oscops") 228) 169
abbrev fd_L_word : FuncData := fdOf (inCls (stAt 17) 3) "Links.word" (Value.none) (Value.str (Str.ofString "termcore.oscops") 228) 176
abbrev fd_osc_palette_key : FuncData := fdOf (stAt 18) "osc_palette_key" (Value.none) (Value.str (Str.ofString "termcore.oscops") 228) 190
abbrev fd_osc_selections : FuncData := fdOf (stAt 19) "osc_selections" (Value.none) (Value.str (Str.ofString "termcore.oscops") 228) 197
abbrev fd_law_deck : FuncData := fdOf (stAt 25) "_law_deck" (Value.none) (Value.str (Str.ofString "law_og0242_01") 457) 219
abbrev fd_law_draw : FuncData := fdOf (stAt 26) "_law_draw" (Value.none) (Value.str (Str.ofString "law_og0242_01") 457) 226
abbrev fd_law_cube : FuncData := fdOf (stAt 27) "_law_cube" (Value.none) (Value.str (Str.ofString "law_og0242_01") 457) 233
abbrev fd_law_first : FuncData := fdOf (stAt 28) "_law_first" (Value.none) (Value.str (Str.ofString "law_og0242_01") 457) 240
abbrev fd_law_coloured : FuncData := fdOf (stAt 29) "_law_coloured" (Value.none) (Value.str (Str.ofString "law_og0242_01") 457) 245
abbrev fd_law_palette_right : FuncData := fdOf (stAt 30) "_law_palette_right" (Value.none) (Value.str (Str.ofString "law_og0242_01") 457) 252
abbrev fd_law_link_right : FuncData := fdOf (stAt 31) "_law_link_right" (Value.none) (Value.str (Str.ofString "law_og0242_01") 457) 259
abbrev fd_law_titled : FuncData := fdOf (stAt 32) "_law_titled" (Value.none) (Value.str (Str.ofString "law_og0242_01") 457) 266
abbrev fd_law_keys_right : FuncData := fdOf (stAt 33) "_law_keys_right" (Value.none) (Value.str (Str.ofString "law_og0242_01") 457) 271
abbrev fd_law : FuncData := fdOf (stAt 34) "law" (Value.none) (Value.str (Str.ofString "law_og0242_01") 457) 278

section
variable {c : Cf} {mg mb : Str → Option Value}
theorem kinds_of {sc : Scope} {ns : List Str} (e : ns.all (fun x => decide (sc.names.lookup x = some .local) || decide (sc.names.lookup x = some .cell)) = true) : ∀ x ∈ ns, sc.names.lookup x = some .local ∨ sc.names.lookup x = some .cell := fun x m => (Bool.or_eq_true_iff.mp (List.all_eq_true.mp e x m)).imp of_decide_eq_true of_decide_eq_true
theorem lk {P : Params} {h : Heap} (X : (hk P).In h) {a : Addr} {o : Obj} (e : (hk P).lookup a = some o) : h.get? a = some o := X a o e
theorem def_rgb_number (B : Bs c (hk c.w.params) mg mb) : DefOk c 29 fd_rgb_number ["red", "green", "blue"] b_rgb_number := ⟨⟨_, B.K _ _ rfl, rfl⟩, rfl, rfl, codeRec_of B.K rfl, rfl, rfl, rfl, rfl, rfl, by decide, kinds_of (by decide), fun x n e => cellsFrom_some _ n [] (.inl e), fun s vs k hl => by
  obtain _ | ⟨v0, _ | ⟨v1, _ | ⟨v2, _ | ⟨v, vs⟩⟩⟩⟩ := vs <;> first | (cases hl; done) | skip
  exact BindsTo.of_eq rfl⟩
theorem def_palette_rgb (B : Bs c (hk c.w.params) mg mb) : DefOk c 36 fd_palette_rgb ["index"] b_palette_rgb := ⟨⟨_, B.K _ _ rfl, rfl⟩, rfl, rfl, codeRec_of B.K rfl, rfl, rfl, rfl, rfl, rfl, by decide, kinds_of (by decide), fun x n e => cellsFrom_some _ n [] (.inl e), fun s vs k hl => by
  obtain _ | ⟨v0, _ | ⟨v, vs⟩⟩ := vs <;> first | (cases hl; done) | skip
  exact BindsTo.of_eq rfl⟩
theorem def_T_init (B : Bs c (hk c.w.params) mg mb) : DefOk c 50 fd_T_init ["self"] b_T_init := ⟨⟨_, B.K _ _ rfl, rfl⟩, rfl, rfl, codeRec_of B.K rfl, rfl, rfl, rfl, rfl, rfl, by decide, kinds_of (by decide), fun x n e => cellsFrom_some _ n [] (.inl e), fun s vs k hl => by
  obtain _ | ⟨v0, _ | ⟨v, vs⟩⟩ := vs <;> first | (cases hl; done) | skip
  exact BindsTo.of_eq rfl⟩
theorem def_T_put (B : Bs c (hk c.w.params) mg mb) : DefOk c 57 fd_T_put ["self", "which", "octets"] b_T_put := ⟨⟨_, B.K _ _ rfl, rfl⟩, rfl, rfl, codeRec_of B.K rfl, rfl, rfl, rfl, rfl, rfl, by decide, kinds_of (by decide), fun x n e => cellsFrom_some _ n [] (.inl e), fun s vs k hl => by
  obtain _ | ⟨v0, _ | ⟨v1, _ | ⟨v2, _ | ⟨v, vs⟩⟩⟩⟩ := vs <;> first | (cases hl; done) | skip
  exact BindsTo.of_eq rfl⟩
theorem def_T_push (B : Bs c (hk c.w.params) mg mb) : DefOk c 64 fd_T_push ["self", "most"] b_T_push := ⟨⟨_, B.K _ _ rfl, rfl⟩, rfl, rfl, codeRec_of B.K rfl, rfl, rfl, rfl, rfl, rfl, by decide, kinds_of (by decide), fun x n e => cellsFrom_some _ n [] (.inl e), fun s vs k hl => by
  obtain _ | ⟨v0, _ | ⟨v1, _ | ⟨v, vs⟩⟩⟩ := vs <;> first | (cases hl; done) | skip
  exact BindsTo.of_eq rfl⟩
theorem def_T_pop (B : Bs c (hk c.w.params) mg mb) : DefOk c 71 fd_T_pop ["self", "which"] b_T_pop := ⟨⟨_, B.K _ _ rfl, rfl⟩, rfl, rfl, codeRec_of B.K rfl, rfl, rfl, rfl, rfl, rfl, by decide, kinds_of (by decide), fun x n e => cellsFrom_some _ n [] (.inl e), fun s vs k hl => by
  obtain _ | ⟨v0, _ | ⟨v1, _ | ⟨v, vs⟩⟩⟩ := vs <;> first | (cases hl; done) | skip
  exact BindsTo.of_eq rfl⟩
theorem def_P_init (B : Bs c (hk c.w.params) mg mb) : DefOk c 93 fd_P_init ["self", "fore", "back"] b_P_init := ⟨⟨_, B.K _ _ rfl, rfl⟩, rfl, rfl, codeRec_of B.K rfl, rfl, rfl, rfl, rfl, rfl, by decide, kinds_of (by decide), fun x n e => cellsFrom_some _ n [] (.inl e), fun s vs k hl => by
  obtain _ | ⟨v0, _ | ⟨v1, _ | ⟨v2, _ | ⟨v, vs⟩⟩⟩⟩ := vs <;> first | (cases hl; done) | skip
  exact kp_binds (B.K.keeps k) (fun S => by rfl)⟩
theorem def_P_first (B : Bs c (hk c.w.params) mg mb) : DefOk c 100 fd_P_first ["self", "key"] b_P_first := ⟨⟨_, B.K _ _ rfl, rfl⟩, rfl, rfl, codeRec_of B.K rfl, rfl, rfl, rfl, rfl, rfl, by decide, kinds_of (by decide), fun x n e => cellsFrom_some _ n [] (.inl e), fun s vs k hl => by
  obtain _ | ⟨v0, _ | ⟨v1, _ | ⟨v, vs⟩⟩⟩ := vs <;> first | (cases hl; done) | skip
  exact BindsTo.of_eq rfl⟩
theorem def_P_rgb (B : Bs c (hk c.w.params) mg mb) : DefOk c 107 fd_P_rgb ["self", "key"] b_P_rgb := ⟨⟨_, B.K _ _ rfl, rfl⟩, rfl, rfl, codeRec_of B.K rfl, rfl, rfl, rfl, rfl, rfl, by decide, kinds_of (by decide), fun x n e => cellsFrom_some _ n [] (.inl e), fun s vs k hl => by
  obtain _ | ⟨v0, _ | ⟨v1, _ | ⟨v, vs⟩⟩⟩ := vs <;> first | (cases hl; done) | skip
  exact BindsTo.of_eq rfl⟩
theorem def_P_put (B : Bs c (hk c.w.params) mg mb) : DefOk c 114 fd_P_put ["self", "key", "rgb"] b_P_put := ⟨⟨_, B.K _ _ rfl, rfl⟩, rfl, rfl, codeRec_of B.K rfl, rfl, rfl, rfl, rfl, rfl, by decide, kinds_of (by decide), fun x n e => cellsFrom_some _ n [] (.inl e), fun s vs k hl => by
  obtain _ | ⟨v0, _ | ⟨v1, _ | ⟨v2, _ | ⟨v, vs⟩⟩⟩⟩ := vs <;> first | (cases hl; done) | skip
  exact BindsTo.of_eq rfl⟩
theorem def_P_put_back (B : Bs c (hk c.w.params) mg mb) : DefOk c 121 fd_P_put_back ["self", "key"] b_P_put_back := ⟨⟨_, B.K _ _ rfl, rfl⟩, rfl, rfl, codeRec_of B.K rfl, rfl, rfl, rfl, rfl, rfl, by decide, kinds_of (by decide), fun x n e => cellsFrom_some _ n [] (.inl e), fun s vs k hl => by
  obtain _ | ⟨v0, _ | ⟨v1, _ | ⟨v, vs⟩⟩⟩ := vs <;> first | (cases hl; done) | skip
  exact BindsTo.of_eq rfl⟩
theorem def_P_put_back_all (B : Bs c (hk c.w.params) mg mb) : DefOk c 128 fd_P_put_back_all ["self", "word"] b_P_put_back_all := ⟨⟨_, B.K _ _ rfl, rfl⟩, rfl, rfl, codeRec_of B.K rfl, rfl, rfl, rfl, rfl, rfl, by decide, kinds_of (by decide), fun x n e => cellsFrom_some _ n [] (.inl e), fun s vs k hl => by
  obtain _ | ⟨v0, _ | ⟨v1, _ | ⟨v, vs⟩⟩⟩ := vs <;> first | (cases hl; done) | skip
  exact BindsTo.of_eq rfl⟩
theorem def_P_colour_rgb (B : Bs c (hk c.w.params) mg mb) : DefOk c 135 fd_P_colour_rgb ["self", "colour", "is_fore"] b_P_colour_rgb := ⟨⟨_, B.K _ _ rfl, rfl⟩, rfl, rfl, codeRec_of B.K rfl, rfl, rfl, rfl, rfl, rfl, by decide, kinds_of (by decide), fun x n e => cellsFrom_some _ n [] (.inl e), fun s vs k hl => by
  obtain _ | ⟨v0, _ | ⟨v1, _ | ⟨v2, _ | ⟨v, vs⟩⟩⟩⟩ := vs <;> first | (cases hl; done) | skip
  exact BindsTo.of_eq rfl⟩
theorem def_L_init (B : Bs c (hk c.w.params) mg mb) : DefOk c 156 fd_L_init ["self"] b_L_init := ⟨⟨_, B.K _ _ rfl, rfl⟩, rfl, rfl, codeRec_of B.K rfl, rfl, rfl, rfl, rfl, rfl, by decide, kinds_of (by decide), fun x n e => cellsFrom_some _ n [] (.inl e), fun s vs k hl => by
  obtain _ | ⟨v0, _ | ⟨v, vs⟩⟩ := vs <;> first | (cases hl; done) | skip
  exact BindsTo.of_eq rfl⟩
theorem def_L_number_of_link (B : Bs c (hk c.w.params) mg mb) : DefOk c 163 fd_L_number_of_link ["self", "word", "address", "most"] b_L_number_of_link := ⟨⟨_, B.K _ _ rfl, rfl⟩, rfl, rfl, codeRec_of B.K rfl, rfl, rfl, rfl, rfl, rfl, by decide, kinds_of (by decide), fun x n e => cellsFrom_some _ n [] (.inl e), fun s vs k hl => by
  obtain _ | ⟨v0, _ | ⟨v1, _ | ⟨v2, _ | ⟨v3, _ | ⟨v, vs⟩⟩⟩⟩⟩ := vs <;> first | (cases hl; done) | skip
  exact BindsTo.of_eq rfl⟩
theorem def_L_address (B : Bs c (hk c.w.params) mg mb) : DefOk c 170 fd_L_address ["self", "number"] b_L_address := ⟨⟨_, B.K _ _ rfl, rfl⟩, rfl, rfl, codeRec_of B.K rfl, rfl, rfl, rfl, rfl, rfl, by decide, kinds_of (by decide), fun x n e => cellsFrom_some _ n [] (.inl e), fun s vs k hl => by
  obtain _ | ⟨v0, _ | ⟨v1, _ | ⟨v, vs⟩⟩⟩ := vs <;> first | (cases hl; done) | skip
  exact BindsTo.of_eq rfl⟩
theorem def_L_word (B : Bs c (hk c.w.params) mg mb) : DefOk c 177 fd_L_word ["self", "number"] b_L_word := ⟨⟨_, B.K _ _ rfl, rfl⟩, rfl, rfl, codeRec_of B.K rfl, rfl, rfl, rfl, rfl, rfl, by decide, kinds_of (by decide), fun x n e => cellsFrom_some _ n [] (.inl e), fun s vs k hl => by
  obtain _ | ⟨v0, _ | ⟨v1, _ | ⟨v, vs⟩⟩⟩ := vs <;> first | (cases hl; done) | skip
  exact BindsTo.of_eq rfl⟩
theorem def_osc_palette_key (B : Bs c (hk c.w.params) mg mb) : DefOk c 191 fd_osc_palette_key ["number", "is_special"] b_osc_palette_key := ⟨⟨_, B.K _ _ rfl, rfl⟩, rfl, rfl, codeRec_of B.K rfl, rfl, rfl, rfl, rfl, rfl, by decide, kinds_of (by decide), fun x n e => cellsFrom_some _ n [] (.inl e), fun s vs k hl => by
  obtain _ | ⟨v0, _ | ⟨v1, _ | ⟨v, vs⟩⟩⟩ := vs <;> first | (cases hl; done) | skip
  exact BindsTo.of_eq rfl⟩
theorem def_osc_selections (B : Bs c (hk c.w.params) mg mb) : DefOk c 198 fd_osc_selections ["octets"] b_osc_selections := ⟨⟨_, B.K _ _ rfl, rfl⟩, rfl, rfl, codeRec_of B.K rfl, rfl, rfl, rfl, rfl, rfl, by decide, kinds_of (by decide), fun x n e => cellsFrom_some _ n [] (.inl e), fun s vs k hl => by
  obtain _ | ⟨v0, _ | ⟨v, vs⟩⟩ := vs <;> first | (cases hl; done) | skip
  exact BindsTo.of_eq rfl⟩
theorem def_law_deck (B : Bs c (hk c.w.params) mg mb) : DefOk c 220 fd_law_deck ["script"] b_law_deck := ⟨⟨_, B.K _ _ rfl, rfl⟩, rfl, rfl, codeRec_of B.K rfl, rfl, rfl, rfl, rfl, rfl, by decide, kinds_of (by decide), fun x n e => cellsFrom_some _ n [] (.inl e), fun s vs k hl => by
  obtain _ | ⟨v0, _ | ⟨v, vs⟩⟩ := vs <;> first | (cases hl; done) | skip
  exact BindsTo.of_eq rfl⟩
theorem def_law_draw (B : Bs c (hk c.w.params) mg mb) : DefOk c 227 fd_law_draw ["deck", "many"] b_law_draw := ⟨⟨_, B.K _ _ rfl, rfl⟩, rfl, rfl, codeRec_of B.K rfl, rfl, rfl, rfl, rfl, rfl, by decide, kinds_of (by decide), fun x n e => cellsFrom_some _ n [] (.inl e), fun s vs k hl => by
  obtain _ | ⟨v0, _ | ⟨v1, _ | ⟨v, vs⟩⟩⟩ := vs <;> first | (cases hl; done) | skip
  exact BindsTo.of_eq rfl⟩
theorem def_law_cube (B : Bs c (hk c.w.params) mg mb) : DefOk c 234 fd_law_cube ["number"] b_law_cube := ⟨⟨_, B.K _ _ rfl, rfl⟩, rfl, rfl, codeRec_of B.K rfl, rfl, rfl, rfl, rfl, rfl, by decide, kinds_of (by decide), fun x n e => cellsFrom_some _ n [] (.inl e), fun s vs k hl => by
  obtain _ | ⟨v0, _ | ⟨v, vs⟩⟩ := vs <;> first | (cases hl; done) | skip
  exact BindsTo.of_eq rfl⟩
theorem def_law_first (B : Bs c (hk c.w.params) mg mb) : DefOk c 241 fd_law_first ["world", "key"] b_law_first := ⟨⟨_, B.K _ _ rfl, rfl⟩, rfl, rfl, codeRec_of B.K rfl, rfl, rfl, rfl, rfl, rfl, by decide, kinds_of (by decide), fun x n e => cellsFrom_some _ n [] (.inl e), fun s vs k hl => by
  obtain _ | ⟨v0, _ | ⟨v1, _ | ⟨v, vs⟩⟩⟩ := vs <;> first | (cases hl; done) | skip
  exact BindsTo.of_eq rfl⟩
theorem def_law_coloured (B : Bs c (hk c.w.params) mg mb) : DefOk c 246 fd_law_coloured ["deck", "palette", "world", "way"] b_law_coloured := ⟨⟨_, B.K _ _ rfl, rfl⟩, rfl, rfl, codeRec_of B.K rfl, rfl, rfl, rfl, rfl, rfl, by decide, kinds_of (by decide), fun x n e => cellsFrom_some _ n [] (.inl e), fun s vs k hl => by
  obtain _ | ⟨v0, _ | ⟨v1, _ | ⟨v2, _ | ⟨v3, _ | ⟨v, vs⟩⟩⟩⟩⟩ := vs <;> first | (cases hl; done) | skip
  exact BindsTo.of_eq rfl⟩
theorem def_law_palette_right (B : Bs c (hk c.w.params) mg mb) : DefOk c 253 fd_law_palette_right ["palette", "world"] b_law_palette_right := ⟨⟨_, B.K _ _ rfl, rfl⟩, rfl, rfl, codeRec_of B.K rfl, rfl, rfl, rfl, rfl, rfl, by decide, kinds_of (by decide), fun x n e => cellsFrom_some _ n [] (.inl e), fun s vs k hl => by
  obtain _ | ⟨v0, _ | ⟨v1, _ | ⟨v, vs⟩⟩⟩ := vs <;> first | (cases hl; done) | skip
  exact BindsTo.of_eq rfl⟩
theorem def_law_link_right (B : Bs c (hk c.w.params) mg mb) : DefOk c 260 fd_law_link_right ["deck", "links", "world"] b_law_link_right := ⟨⟨_, B.K _ _ rfl, rfl⟩, rfl, rfl, codeRec_of B.K rfl, rfl, rfl, rfl, rfl, rfl, by decide, kinds_of (by decide), fun x n e => cellsFrom_some _ n [] (.inl e), fun s vs k hl => by
  obtain _ | ⟨v0, _ | ⟨v1, _ | ⟨v2, _ | ⟨v, vs⟩⟩⟩⟩ := vs <;> first | (cases hl; done) | skip
  exact BindsTo.of_eq rfl⟩
theorem def_law_titled (B : Bs c (hk c.w.params) mg mb) : DefOk c 267 fd_law_titled ["deck", "titles", "world", "way"] b_law_titled := ⟨⟨_, B.K _ _ rfl, rfl⟩, rfl, rfl, codeRec_of B.K rfl, rfl, rfl, rfl, rfl, rfl, by decide, kinds_of (by decide), fun x n e => cellsFrom_some _ n [] (.inl e), fun s vs k hl => by
  obtain _ | ⟨v0, _ | ⟨v1, _ | ⟨v2, _ | ⟨v3, _ | ⟨v, vs⟩⟩⟩⟩⟩ := vs <;> first | (cases hl; done) | skip
  exact BindsTo.of_eq rfl⟩
theorem def_law_keys_right (B : Bs c (hk c.w.params) mg mb) : DefOk c 272 fd_law_keys_right ["deck"] b_law_keys_right := ⟨⟨_, B.K _ _ rfl, rfl⟩, rfl, rfl, codeRec_of B.K rfl, rfl, rfl, rfl, rfl, rfl, by decide, kinds_of (by decide), fun x n e => cellsFrom_some _ n [] (.inl e), fun s vs k hl => by
  obtain _ | ⟨v0, _ | ⟨v, vs⟩⟩ := vs <;> first | (cases hl; done) | skip
  exact BindsTo.of_eq rfl⟩
theorem def_law (B : Bs c (hk c.w.params) mg mb) : DefOk c 279 fd_law ["script"] b_law := ⟨⟨_, B.K _ _ rfl, rfl⟩, rfl, rfl, codeRec_of B.K rfl, rfl, rfl, rfl, rfl, rfl, by decide, kinds_of (by decide), fun x n e => cellsFrom_some _ n [] (.inl e), fun s vs k hl => by
  obtain _ | ⟨v0, _ | ⟨v, vs⟩⟩ := vs <;> first | (cases hl; done) | skip
  exact BindsTo.of_eq rfl⟩
theorem kp_rgb_number (B : Bs c (hk c.w.params) mg mb) : KeepOk c (.ref 29) := keep_K B rfl
theorem nm_rgb_number (B : Bs c (hk c.w.params) mg mb) : NameIs mg mb "rgb_number" (.ref 29) := .inl (mg_of B.K B.g rfl)
theorem kp_palette_rgb (B : Bs c (hk c.w.params) mg mb) : KeepOk c (.ref 36) := keep_K B rfl
theorem nm_palette_rgb (B : Bs c (hk c.w.params) mg mb) : NameIs mg mb "palette_rgb" (.ref 36) := .inl (mg_of B.K B.g rfl)
theorem kp_T_init (B : Bs c (hk c.w.params) mg mb) : KeepOk c (.ref 50) := keep_K B rfl
theorem kp_T_put (B : Bs c (hk c.w.params) mg mb) : KeepOk c (.ref 57) := keep_K B rfl
theorem kp_T_push (B : Bs c (hk c.w.params) mg mb) : KeepOk c (.ref 64) := keep_K B rfl
theorem kp_T_pop (B : Bs c (hk c.w.params) mg mb) : KeepOk c (.ref 71) := keep_K B rfl
theorem kp_P_init (B : Bs c (hk c.w.params) mg mb) : KeepOk c (.ref 93) := keep_K B rfl
theorem kp_P_first (B : Bs c (hk c.w.params) mg mb) : KeepOk c (.ref 100) := keep_K B rfl
theorem kp_P_rgb (B : Bs c (hk c.w.params) mg mb) : KeepOk c (.ref 107) := keep_K B rfl
theorem kp_P_put (B : Bs c (hk c.w.params) mg mb) : KeepOk c (.ref 114) := keep_K B rfl
theorem kp_P_put_back (B : Bs c (hk c.w.params) mg mb) : KeepOk c (.ref 121) := keep_K B rfl
theorem kp_P_put_back_all (B : Bs c (hk c.w.params) mg mb) : KeepOk c (.ref 128) := keep_K B rfl
theorem kp_P_colour_rgb (B : Bs c (hk c.w.params) mg mb) : KeepOk c (.ref 135) := keep_K B rfl
theorem kp_L_init (B : Bs c (hk c.w.params) mg mb) : KeepOk c (.ref 156) := keep_K B rfl
theorem kp_L_number_of_link (B : Bs c (hk c.w.params) mg mb) : KeepOk c (.ref 163) := keep_K B rfl
theorem kp_L_address (B : Bs c (hk c.w.params) mg mb) : KeepOk c (.ref 170) := keep_K B rfl
theorem kp_L_word (B : Bs c (hk c.w.params) mg mb) : KeepOk c (.ref 177) := keep_K B rfl
theorem kp_osc_palette_key (B : Bs c (hk c.w.params) mg mb) : KeepOk c (.ref 191) := keep_K B rfl
theorem nm_osc_palette_key (B : Bs c (hk c.w.params) mg mb) : NameIs mg mb "osc_palette_key" (.ref 191) := .inl (mg_of B.K B.g rfl)
theorem kp_osc_selections (B : Bs c (hk c.w.params) mg mb) : KeepOk c (.ref 198) := keep_K B rfl
theorem nm_osc_selections (B : Bs c (hk c.w.params) mg mb) : NameIs mg mb "osc_selections" (.ref 198) := .inl (mg_of B.K B.g rfl)
theorem kp_law_deck (B : Bs c (hk c.w.params) mg mb) : KeepOk c (.ref 220) := keep_K B rfl
theorem nm_law_deck (B : Bs c (hk c.w.params) mg mb) : NameIs mg mb "_law_deck" (.ref 220) := .inl (mg_of B.K B.g rfl)
theorem kp_law_draw (B : Bs c (hk c.w.params) mg mb) : KeepOk c (.ref 227) := keep_K B rfl
theorem nm_law_draw (B : Bs c (hk c.w.params) mg mb) : NameIs mg mb "_law_draw" (.ref 227) := .inl (mg_of B.K B.g rfl)
theorem kp_law_cube (B : Bs c (hk c.w.params) mg mb) : KeepOk c (.ref 234) := keep_K B rfl
theorem nm_law_cube (B : Bs c (hk c.w.params) mg mb) : NameIs mg mb "_law_cube" (.ref 234) := .inl (mg_of B.K B.g rfl)
theorem kp_law_first (B : Bs c (hk c.w.params) mg mb) : KeepOk c (.ref 241) := keep_K B rfl
theorem nm_law_first (B : Bs c (hk c.w.params) mg mb) : NameIs mg mb "_law_first" (.ref 241) := .inl (mg_of B.K B.g rfl)
theorem kp_law_coloured (B : Bs c (hk c.w.params) mg mb) : KeepOk c (.ref 246) := keep_K B rfl
theorem nm_law_coloured (B : Bs c (hk c.w.params) mg mb) : NameIs mg mb "_law_coloured" (.ref 246) := .inl (mg_of B.K B.g rfl)
theorem kp_law_palette_right (B : Bs c (hk c.w.params) mg mb) : KeepOk c (.ref 253) := keep_K B rfl
theorem nm_law_palette_right (B : Bs c (hk c.w.params) mg mb) : NameIs mg mb "_law_palette_right" (.ref 253) := .inl (mg_of B.K B.g rfl)
theorem kp_law_link_right (B : Bs c (hk c.w.params) mg mb) : KeepOk c (.ref 260) := keep_K B rfl
theorem nm_law_link_right (B : Bs c (hk c.w.params) mg mb) : NameIs mg mb "_law_link_right" (.ref 260) := .inl (mg_of B.K B.g rfl)
theorem kp_law_titled (B : Bs c (hk c.w.params) mg mb) : KeepOk c (.ref 267) := keep_K B rfl
theorem nm_law_titled (B : Bs c (hk c.w.params) mg mb) : NameIs mg mb "_law_titled" (.ref 267) := .inl (mg_of B.K B.g rfl)
theorem kp_law_keys_right (B : Bs c (hk c.w.params) mg mb) : KeepOk c (.ref 272) := keep_K B rfl
theorem nm_law_keys_right (B : Bs c (hk c.w.params) mg mb) : NameIs mg mb "_law_keys_right" (.ref 272) := .inl (mg_of B.K B.g rfl)
theorem kp_law (B : Bs c (hk c.w.params) mg mb) : KeepOk c (.ref 279) := keep_K B rfl
theorem nm_law (B : Bs c (hk c.w.params) mg mb) : NameIs mg mb "law" (.ref 279) := .inl (mg_of B.K B.g rfl)
theorem kp_Titles (B : Bs c (hk c.w.params) mg mb) : KeepOk c (.ref 74) := keep_K B rfl
theorem nm_Titles (B : Bs c (hk c.w.params) mg mb) : NameIs mg mb "Titles" (.ref 74) := .inl (mg_of B.K B.g rfl)
theorem kp_Palette (B : Bs c (hk c.w.params) mg mb) : KeepOk c (.ref 138) := keep_K B rfl
theorem nm_Palette (B : Bs c (hk c.w.params) mg mb) : NameIs mg mb "Palette" (.ref 138) := .inl (mg_of B.K B.g rfl)
theorem kp_Links (B : Bs c (hk c.w.params) mg mb) : KeepOk c (.ref 180) := keep_K B rfl
theorem nm_Links (B : Bs c (hk c.w.params) mg mb) : NameIs mg mb "Links" (.ref 180) := .inl (mg_of B.K B.g rfl)
end
end Og
end

section
open PySem PySem.W PySem.Calls PyProof.Rows
set_option Elab.async false
set_option linter.unusedVariables false
set_option genSizeOf false
set_option genInjectivity false
set_option maxRecDepth 100000
namespace Og
section
variable {c : Cf} {mg mb : Str → Option Value} {n : Nat} {cx : Ctx}
theorem g_at {x : Str} {v : Value} {av : AV} {pos : Pos} (B : Bs c (hk c.w.params) mg mb) (e : nsIn (hk c.w.params) mainGlobals x = some (some v)) (hv : Is c c.h₀ [] av v) (hd : (x == ("__debug__" : Str)) = false) (hx : cx.scope.names.lookup x = some .globalImplicit) : OkQ c n cx (.Name x pos) (xConst av) := q_glob B hx (mg_of B.K B.g e) hv hd
theorem tup_at {P : Params} {h : Heap} (X : (hk P).In h) {α : Type} {F : α → Value → Prop} {xs : List α} {a : Addr} {items : Array Value} {k : Nat} {d sl} (e : (hk P).lookup a = some ⟨.type "tuple", d, .seq items k, sl⟩) (p : Paired F xs items.toList) : IsQ F h xs (.ref a) :=
  ⟨a, items, rfl, ⟨_, X _ _ e, rfl, _, rfl⟩, p⟩
theorem g_DIRECT {pos : Pos} (B : Bs c (hk c.w.params) mg mb) (hx : cx.scope.names.lookup ("DIRECT" : Str) = some .globalImplicit) : OkQ c n cx (.Name "DIRECT" pos) (xConst (.at (.int 16777216))) := g_at B rfl ⟨_, rfl⟩ rfl hx
theorem g_FIRST_CUBE {pos : Pos} (B : Bs c (hk c.w.params) mg mb) (hx : cx.scope.names.lookup ("FIRST_CUBE" : Str) = some .globalImplicit) : OkQ c n cx (.Name "FIRST_CUBE" pos) (xConst (.at (.int 16))) := g_at B rfl ⟨_, rfl⟩ rfl hx
theorem g_FIRST_GRAY {pos : Pos} (B : Bs c (hk c.w.params) mg mb) (hx : cx.scope.names.lookup ("FIRST_GRAY" : Str) = some .globalImplicit) : OkQ c n cx (.Name "FIRST_GRAY" pos) (xConst (.at (.int 232))) := g_at B rfl ⟨_, rfl⟩ rfl hx
theorem g_ICON_TITLE {pos : Pos} (B : Bs c (hk c.w.params) mg mb) (hx : cx.scope.names.lookup ("ICON_TITLE" : Str) = some .globalImplicit) : OkQ c n cx (.Name "ICON_TITLE" pos) (xConst (.at (.int 1))) := g_at B rfl ⟨_, rfl⟩ rfl hx
theorem g_WINDOW_TITLE {pos : Pos} (B : Bs c (hk c.w.params) mg mb) (hx : cx.scope.names.lookup ("WINDOW_TITLE" : Str) = some .globalImplicit) : OkQ c n cx (.Name "WINDOW_TITLE" pos) (xConst (.at (.int 2))) := g_at B rfl ⟨_, rfl⟩ rfl hx
theorem g_PALETTE_SIZE {pos : Pos} (B : Bs c (hk c.w.params) mg mb) (hx : cx.scope.names.lookup ("PALETTE_SIZE" : Str) = some .globalImplicit) : OkQ c n cx (.Name "PALETTE_SIZE" pos) (xConst (.at (.int 256))) := g_at B rfl ⟨_, rfl⟩ rfl hx
theorem g_SPECIAL_SIZE {pos : Pos} (B : Bs c (hk c.w.params) mg mb) (hx : cx.scope.names.lookup ("SPECIAL_SIZE" : Str) = some .globalImplicit) : OkQ c n cx (.Name "SPECIAL_SIZE" pos) (xConst (.at (.int 5))) := g_at B rfl ⟨_, rfl⟩ rfl hx
theorem g_FIRST_DYNAMIC {pos : Pos} (B : Bs c (hk c.w.params) mg mb) (hx : cx.scope.names.lookup ("FIRST_DYNAMIC" : Str) = some .globalImplicit) : OkQ c n cx (.Name "FIRST_DYNAMIC" pos) (xConst (.at (.int 10))) := g_at B rfl ⟨_, rfl⟩ rfl hx
theorem g_SELECTIONS {pos : Pos} (B : Bs c (hk c.w.params) mg mb) (hx : cx.scope.names.lookup ("SELECTIONS" : Str) = some .globalImplicit) : OkQ c n cx (.Name "SELECTIONS" pos) (xConst (.at (.bytes sels))) := g_at B rfl ⟨_, rfl⟩ rfl hx
theorem g_CUBE_LEVELS {pos : Pos} (B : Bs c (hk c.w.params) mg mb) (hx : cx.scope.names.lookup ("CUBE_LEVELS" : Str) = some .globalImplicit) : OkQ c n cx (.Name "CUBE_LEVELS" pos) (xConst (.tup levs)) := g_at B rfl (tup_at B.K rfl (.cons ⟨_, rfl⟩ (.cons ⟨_, rfl⟩ (.cons ⟨_, rfl⟩ (.cons ⟨_, rfl⟩ (.cons ⟨_, rfl⟩ (.cons ⟨_, rfl⟩ .nil))))))) rfl hx
theorem g_law_rgbs {pos : Pos} (B : Bs c (hk c.w.params) mg mb) (hx : cx.scope.names.lookup ("_law_rgbs" : Str) = some .globalImplicit) : OkQ c n cx (.Name "_law_rgbs" pos) (xConst (.tup rgbs)) := g_at B rfl (tup_at B.K rfl (.cons ⟨_, rfl⟩ (.cons ⟨_, rfl⟩ (.cons ⟨_, rfl⟩ (.cons ⟨_, rfl⟩ (.cons ⟨_, rfl⟩ .nil)))))) rfl hx
theorem g_law_ids {pos : Pos} (B : Bs c (hk c.w.params) mg mb) (hx : cx.scope.names.lookup ("_law_ids" : Str) = some .globalImplicit) : OkQ c n cx (.Name "_law_ids" pos) (xConst (.tup ids)) := g_at B rfl (tup_at B.K rfl (.cons ⟨_, rfl⟩ (.cons ⟨_, rfl⟩ (.cons ⟨_, rfl⟩ .nil)))) rfl hx
theorem g_law_addresses {pos : Pos} (B : Bs c (hk c.w.params) mg mb) (hx : cx.scope.names.lookup ("_law_addresses" : Str) = some .globalImplicit) : OkQ c n cx (.Name "_law_addresses" pos) (xConst (.tup adrs)) := g_at B rfl (tup_at B.K rfl (.cons ⟨_, rfl⟩ (.cons ⟨_, rfl⟩ (.cons ⟨_, rfl⟩ .nil)))) rfl hx
theorem g_law_keys {pos : Pos} (B : Bs c (hk c.w.params) mg mb) (hx : cx.scope.names.lookup ("_law_keys" : Str) = some .globalImplicit) : OkQ c n cx (.Name "_law_keys" pos) (xConst (.tab keys)) := by
  refine g_at B (v := .ref 212) rfl ?_ rfl hx
  have k : ∀ a x t z u, (hk c.w.params).lookup a = some ⟨.type "tuple", none, .seq #[.str x t, .int z u] 0, #[]⟩ → ∀ i, words[i]? = some x → IsT c.h₀ [.str i, .int z] (.ref a) := fun a x t z u e i w => tup_at B.K e (.cons ⟨_, _, w, rfl⟩ (.cons ⟨_, rfl⟩ .nil))
  exact tup_at B.K rfl (.cons (k 199 _ _ _ _ rfl _ rfl) (.cons (k 200 _ _ _ _ rfl _ rfl) (.cons (k 201 _ _ _ _ rfl _ rfl) (.cons (k 202 _ _ _ _ rfl _ rfl) (.cons (k 203 _ _ _ _ rfl _ rfl) (.cons (k 204 _ _ _ _ rfl _ rfl) (.cons (k 205 _ _ _ _ rfl _ rfl) (.cons (k 206 _ _ _ _ rfl _ rfl) (.cons (k 207 _ _ _ _ rfl _ rfl) (.cons (k 208 _ _ _ _ rfl _ rfl) (.cons (k 209 _ _ _ _ rfl _ rfl) (.cons (k 210 _ _ _ _ rfl _ rfl) (.cons (k 211 _ _ _ _ rfl _ rfl) .nil)))))))))))))
theorem b_at {x : Str} {v : Value} (B : Bs c (hk c.w.params) mg mb) (bb : ∀ x : Str, x ≠ "__name__" → mb x = bootBuiltins x) (e : nsIn (hk c.w.params) mainGlobals x = some none) (hn : x ≠ "__name__") (hv : bootBuiltins x = some v) : NameIs mg mb x v := .inr ⟨mg_none_of B.K B.g e, (bb x hn).trans hv⟩
theorem b_len (B : Bs c (hk c.w.params) mg mb) (bb : ∀ x : Str, x ≠ "__name__" → mb x = bootBuiltins x) : NameIs mg mb "len" (.builtin "len") := b_at B bb rfl (by decide) rfl
theorem b_repr (B : Bs c (hk c.w.params) mg mb) (bb : ∀ x : Str, x ≠ "__name__" → mb x = bootBuiltins x) : NameIs mg mb "repr" (.builtin "repr") := b_at B bb rfl (by decide) rfl
theorem b_int (B : Bs c (hk c.w.params) mg mb) (bb : ∀ x : Str, x ≠ "__name__" → mb x = bootBuiltins x) : NameIs mg mb "int" (.type "int") := b_at B bb rfl (by decide) rfl
theorem b_bytes (B : Bs c (hk c.w.params) mg mb) (bb : ∀ x : Str, x ≠ "__name__" → mb x = bootBuiltins x) : NameIs mg mb "bytes" (.type "bytes") := b_at B bb rfl (by decide) rfl
theorem b_list (B : Bs c (hk c.w.params) mg mb) (bb : ∀ x : Str, x ≠ "__name__" → mb x = bootBuiltins x) : NameIs mg mb "list" (.type "list") := b_at B bb rfl (by decide) rfl
theorem b_range (B : Bs c (hk c.w.params) mg mb) (bb : ∀ x : Str, x ≠ "__name__" → mb x = bootBuiltins x) : NameIs mg mb "range" (.type "range") := b_at B bb rfl (by decide) rfl
theorem b_enumerate (B : Bs c (hk c.w.params) mg mb) (bb : ∀ x : Str, x ≠ "__name__" → mb x = bootBuiltins x) : NameIs mg mb "enumerate" (.type "enumerate") := b_at B bb rfl (by decide) rfl
theorem cls_T {P : Params} : ClsOk (hk P) 74 := ⟨rfl, rfl, rfl, rfl, rfl⟩
theorem cls_P {P : Params} : ClsOk (hk P) 138 := ⟨rfl, rfl, rfl, rfl, rfl⟩
theorem cls_L {P : Params} : ClsOk (hk P) 180 := ⟨rfl, rfl, rfl, rfl, rfl⟩
end
end Og
end

section
open PySem PySem.W PySem.Calls PyProof.Rows PySem.SeqAt
set_option Elab.async false
set_option linter.unusedVariables false
set_option genSizeOf false
set_option genInjectivity false
namespace Og
/-- a judgement in a box: so that nobody looks into it -/
structure Bx (p : Prop) : Prop where
  h : p
section
variable {c : Cf} {n : Nat} {cx : Ctx} {top : Bool} {K : Frag} {mg mb : Str → Option Value}
theorem kokB_nil : Bx (OkB c n cx top [] sNil) := ⟨okB_nil ⟩
theorem kokB_cons {st : Stmt} {rest : List Stmt} {a b : XS} (ha : Bx (OkS c n cx top st a)) (hb : Bx (OkB c n cx top rest b)) : Bx (OkB c n cx top (st :: rest) (sSeq a b)) := ⟨okB_cons ha.h hb.h⟩
theorem kokS_expr {e : Expr} {pos : Pos} {x : XE} (h : Bx (Ok c n cx e x)) (hs : ∀ env, swapsWith e none pos.line env = pure false) : Bx (OkS c n cx top (.Expr e pos) (sExpr x)) := ⟨okS_expr h.h hs⟩
theorem kokS_ret {e : Expr} {pos : Pos} {x : XE} (h : Bx (Ok c n cx e x)) : Bx (OkS c n cx top (.Return (some e) pos) (sRet x)) := ⟨okS_ret h.h⟩
theorem kokS_if {t : Expr} {a b : List Stmt} {pos : Pos} {xt : XT} {xa xb : XS} (ht : Bx (OkT c n cx t xt)) (ha : Bx (OkB c n cx top a xa)) (hb : Bx (OkB c n cx top b xb)) : Bx (OkS c n cx top (.If t a b pos) (sIf xt xa xb)) := ⟨okS_if ht.h ha.h hb.h⟩
theorem kokS_set {e : Expr} {nm : Str} {pos' pos : Pos} {x : XE} (i : Nat) (hi : cx.slots[i]? = some nm) (hn : cx.slots.Nodup) (hk : KindOk cx nm) (h : Bx (Ok c n cx e x)) (hs : ∀ env, swapsWith e (some (.Name nm pos')) pos.line env = pure false) : Bx (OkS c n cx top (.Assign [.Name nm pos'] e pos) (sSet i x)) := ⟨okS_set i hi hn hk h.h hs⟩
theorem kokS_many {e : Expr} {elts : List Expr} {k : Nat} {tpos pos : Pos} {x : XL} (is : List Nat) (hn : cx.slots.Nodup) (hT : ∀ env, Tgts cx env is ((assignEach elts env).map (·.2))) (hst : ∀ env, (assignEach elts env).findIdx? (·.1) = none) (h : Bx (OkTu c n cx e x)) (hs : ∀ env, swapsWithSole [.Tuple elts k tpos] e pos.line env = pure false) (hw : ∀ env, env.scope = cx.scope → swappedStores [.Tuple elts k tpos] e env = pure none) : Bx (OkS c n cx top (.Assign [.Tuple elts k tpos] e pos) (sMany is x)) := ⟨okS_many is hn hT hst h.h hs hw⟩
theorem kokS_swap {e : Expr} {elts : List Expr} {k : Nat} {tpos pos : Pos} {x : XL} {names : List Str} (is : List Nat) (hn : cx.slots.Nodup) (hl : names.length = is.length) (hT : ∀ env, Tgts cx env is.reverse (names.reverse.map fun n => bindName env n)) (h : Bx (OkTu c n cx e x)) (hs : ∀ env, swapsWithSole [.Tuple elts k tpos] e pos.line env = pure false) (hw : ∀ env, env.scope = cx.scope → swappedStores [.Tuple elts k tpos] e env = pure (some names)) : Bx (OkS c n cx top (.Assign [.Tuple elts k tpos] e pos) (sSwap is x)) := ⟨okS_swap is hn hl hT h.h hs hw⟩
theorem kokS_item {e o i : Expr} {pos' pos : Pos} {xe xo xi : XE} {f : F3} (he : Bx (Ok c n cx e xe)) (ho : Bx (Ok c n cx o xo)) (hi : Bx (Ok c n cx i xi)) (hf : Bx (Ok3 c n (fun a b d => setItem a b d) f)) (hs : ∀ env, swapsWith e (some (.Subscript o i pos')) pos.line env = pure false) : Bx (OkS c n cx top (.Assign [.Subscript o i pos'] e pos) (sItem f xe xo xi)) := ⟨okS_item he.h ho.h hi.h hf.h hs⟩
theorem kokS_attr {e o : Expr} {nm : Str} {pos' pos : Pos} {xe xo : XE} {f : F2u} (he : Bx (Ok c n cx e xe)) (ho : Bx (Ok c n cx o xo)) (hf : Bx (Ok2u c n (fun a b => setAttr a nm b) f)) (hs : ∀ env, swapsWith e (some (.Attribute o nm pos')) pos.line env = pure false) : Bx (OkS c n cx top (.Assign [.Attribute o nm pos'] e pos) (sAttr f xe xo)) := ⟨okS_attr he.h ho.h hf.h hs⟩
theorem kokS_for {iter : Expr} {body : List Stmt} {pos : Pos} {x : XSrc} {bd : Bd} {xb : XS} (hx : Bx (OkSrc c n cx top target iter x)) (hb : Bx (OkBd c n cx target bd)) (hy : Bx (OkB c n cx top body xb)) (hs : ∀ env x, foldedSetIterable iter env x = pure x) : Bx (OkS c n cx top (.For target iter body [] pos) (sFor x bd xb)) := ⟨okS_for hx.h hb.h hy.h hs⟩
theorem kokS_re {t : Env → Sem Flow} {x : XS} (h : Bx (OkX c n cx true t x)) : Bx (OkX c n cx true t (sRe x)) := ⟨okS_re h.h⟩
theorem kok_bin {l r : Expr} {op : Operator} {pos : Pos} {xl xr : XE} {f : F2} (hl : Bx (Ok c n cx l xl)) (hr : Bx (Ok c n cx r xr)) (hf : Bx (Ok2 c n (binaryOp op) f)) : Bx (Ok c n cx (.BinOp l op r pos) (x2 f xl xr)) := ⟨ok_bin hl.h hr.h hf.h⟩
theorem kok_cmp {l r : Expr} {op : CmpOp} {pos : Pos} {xl xr : XE} {f : F2} (hl : Bx (Ok c n cx l xl)) (hr : Bx (Ok c n cx r xr)) (hf : Bx (Ok2 c n (compareOp op) f)) (hm : behindInMarks op r = false) : Bx (Ok c n cx (.Compare l [op] [r] pos) (x2 f xl xr)) := ⟨ok_cmp hl.h hr.h hf.h hm⟩
theorem kok_and2 {a b : Expr} {pos : Pos} {xa xb : XE} (ha : Bx (Ok c n cx a xa)) (hb : Bx (Ok c n cx b xb)) : Bx (Ok c n cx (.BoolOp .And [a, b] pos) (xAnd xa xb)) := ⟨ok_and2 ha.h hb.h⟩
theorem kok_ifexp {t a b : Expr} {pos : Pos} {xt : XT} {xa xb : XE} (ht : Bx (OkT c n cx t xt)) (ha : Bx (Ok c n cx a xa)) (hb : Bx (Ok c n cx b xb)) : Bx (Ok c n cx (.IfExp t a b pos) (xIf xt xa xb)) := ⟨ok_ifexp ht.h ha.h hb.h⟩
theorem kok_tuple {es : List Expr} {k : Nat} {pos : Pos} {xs : XL} (h : Bx (OkL c n cx es xs)) : Bx (Ok c n cx (.Tuple es k pos) (xTup xs)) := ⟨ok_tuple h.h⟩
theorem kok_list {es : List Expr} {pos : Pos} {xs : XL} (h : Bx (OkL c n cx es xs)) : Bx (Ok c n cx (.List es pos) (xList xs)) := ⟨ok_list h.h⟩
theorem kok_dict {keys : List (Option Expr)} {values : List Expr} {ks : List Nat} {xl : XL} {pos : Pos} (hl : Bx (OkP c n cx keys values ks xl)) (h1 : keys.all (·.isSome) = true) (h2 : keys.length = values.length) (h3 : keys ≠ []) (h4 : keys.length ≤ 15) (hn : ks.Nodup) : Bx (Ok c n cx (.Dict keys values pos) (xDict ks xl)) := ⟨ok_dict hl.h h1 h2 h3 h4 hn⟩
theorem kokP_nil : Bx (OkP c n cx [] [] [] xlNil) := ⟨okP_nil ⟩
theorem kokP_cons {x : Str} {kn : Nat} {kp : Pos} {i : Nat} {keys : List (Option Expr)} {e : Expr} {values : List Expr} {ks : List Nat} {xe : XE} {xl : XL} (hi : words[i]? = some x) (he : Bx (Ok c n cx e xe)) (hl : Bx (OkP c n cx keys values ks xl)) : Bx (OkP c n cx (some (.Constant (.str x) kn kp) :: keys) (e :: values) (i :: ks) (xlCons xe xl)) := ⟨okP_cons hi he.h hl.h⟩
theorem kok_empty {b : Bool} {pos : Pos} : Bx (Ok c n cx (.Dict [] [] pos) (xEmpty b)) := ⟨ok_empty ⟩
theorem kok_attr (B : Bs c K mg mb) {C : Addr} (H : ClsOk K C) {o : Expr} {pos : Pos} {xo : XE} (nm : Nat) {x : Str} (hx : words[nm]? = some x) (ha : findIn K (.ref C) x = some none) (ho : Bx (Ok c n cx o xo)) (he : ∀ env, eval (.Attribute o x pos) env = (do
      let v ← eval o env
      standAt pos.atName
      let r ← holding [v] (getAttr v x true)
      letTemporaryGo o v r
      pure r)) : Bx (Ok c n cx (.Attribute o x pos) (x1 (fGet C nm) xo)) := ⟨ok_attr B H nm hx ha ho.h he⟩
theorem kok_sub {value slice : Expr} {pos : Pos} {xv xi : XE} (hv : Bx (Ok c n cx value xv)) (hi : Bx (Ok c n cx slice xi)) (hs : ∀ o i, ∃ ops, subscripted slice false o i = operate ops (getItem o i)) : Bx (Ok c n cx (.Subscript value slice pos) (x2 fItem xv xi)) := ⟨ok_sub hv.h hi.h hs⟩
theorem kok_slice {value : Expr} {lower upper step : Option Expr} {lo hi st : Option Int} {p pos : Pos} {x : XE} (hv : Bx (Ok c n cx value x)) (hl : Bx (PartOk c lower lo)) (hu : Bx (PartOk c upper hi)) (hs : Bx (PartOk c step st)) (h0 : st ≠ some 0) (ho : ∀ o i, ∃ ops, subscripted (.Slice lower upper step p) false o i = operate ops (getItem o i)) : Bx (Ok c n cx (.Subscript value (.Slice lower upper step p) pos) (x1 (fSlice lo hi st) x)) := ⟨ok_slice hv.h hl.h hu.h hs.h h0 ho⟩
theorem kok_listcomp {elt iter : Expr} {x : Str} {px pos : Pos} {sc : Scope} {fs : List Str} {is : List Nat} {xs : XSrc} {xe : XE} (hb : inB cx sc x fs is = true) (hx : Bx (OkSrc c n cx false (.Name x px) iter xs)) (he : Bx (Ok c n (inCx cx sc x fs) elt xe)) (hs : ∀ env v, foldedSetIterable iter env v = pure v) : Bx (Ok c n cx (.ListComp elt [⟨.Name x px, iter, [], 0⟩] sc pos) (xLC xs is xe)) := ⟨ok_listcomp hb hx.h he.h hs⟩
theorem kok_dictcomp {kx vx iter tst : Expr} {x : Str} {px pos : Pos} {sc : Scope} {fs : List Str} {is : List Nat} {xe xv : XE} {xt : XT} (hb : inB cx sc x fs is = true) (hx : Bx (Ok c n cx iter xe)) (ht : Bx (OkQT c n (inCx cx sc x fs) tst xt)) (hkx : Bx (OkQ c n (inCx cx sc x fs) kx (xVar 0))) (hv : Bx (OkQ c n (inCx cx sc x fs) vx xv)) (hs : ∀ env v, foldedSetIterable iter env v = pure v) : Bx (Ok c n cx (.DictComp kx vx [⟨.Name x px, iter, [tst], 0⟩] sc pos) (xDC xe is xt xv)) := ⟨ok_dictcomp hb hx.h ht.h hkx.h hv.h hs⟩
theorem kok_call (B : Bs c K mg mb) {x : Str} {np pos : Pos} {args : List Expr} {f : Value} {fn : FL} {xs : XL} (hx : cx.scope.names.lookup x = some .globalImplicit) (hm : NameIs mg mb x f) (hd : (x == ("__debug__" : Str)) = false) (hk : KeepOk c f) (hf : Bx (OkF c n f fn)) (ha : Bx (OkL c n cx args xs)) (hp : ∀ env, (backTo pos (starEach args env)).any (·.1) = false) : Bx (Ok c n cx (.Call (.Name x np) args [] pos) (xCall fn xs)) := ⟨ok_call B hx hm hd hk hf.h ha.h hp⟩
theorem kok_bytes (B : Bs c K mg mb) {x : Str} {np pos lp : Pos} {es : List Expr} {xs : XL} (hx : cx.scope.names.lookup x = some .globalImplicit) (hm : NameIs mg mb x (.type "bytes")) (hd : (x == ("__debug__" : Str)) = false) (ha : Bx (OkL c n cx es xs)) (hp : ∀ env pos, (backTo pos (starEach [.List es lp] env)) = [(false, eval (.List es lp) env)]) : Bx (Ok c n cx (.Call (.Name x np) [.List es lp] [] pos) (xBytes xs)) := ⟨ok_bytes B hx hm hd ha.h hp⟩
theorem kok_method {o : Expr} {x : Str} {apos pos : Pos} {args : List Expr} {tb : MT} {xo : XE} {xs : XL} (pl : Env → Sem Bool) (hm : Bx (OkM c n x tb)) (ho : Bx (Ok c n cx o xo)) (ha : Bx (OkL c n cx args xs)) (hp : ∀ env pos, (backTo pos (starEach args env)).any (·.1) = false) (he : ∀ env, eval (.Call (.Attribute o x apos) args [] pos) env = (do
      let ov ← eval o env
      standAt apos.atName
      let (f, first) ← holding [ov] (getMethod ov x (pl env))
      callWith pos f first (backTo pos (starEach args env)) (backToKw pos (keywordEach [] env)))) : Bx (Ok c n cx (.Call (.Attribute o x apos) args [] pos) (xM tb xo xs)) := ⟨ok_method pl hm.h ho.h ha.h hp he⟩
theorem kokL_nil : Bx (OkL c n cx [] xlNil) := ⟨okL_nil ⟩
theorem kokL_cons {e : Expr} {es : List Expr} {x : XE} {xs : XL} (h : Bx (Ok c n cx e x)) (hs : Bx (OkL c n cx es xs)) (he : ∀ env, starEach (e :: es) env = (false, eval e env) :: starEach es env) : Bx (OkL c n cx (e :: es) (xlCons x xs)) := ⟨okL_cons h.h hs.h he⟩
theorem kokT_not {e : Expr} {pos : Pos} {t : XT} (h : Bx (OkT c n cx e t)) : Bx (OkT c n cx (.UnaryOp .Not e pos) (tNot t)) := ⟨okT_not h.h⟩
theorem kokT_and {a b : Expr} {pos : Pos} {ta tb : XT} (ha : Bx (OkT c n cx a ta)) (hb : Bx (OkT c n cx b tb)) : Bx (OkT c n cx (.BoolOp .And [a, b] pos) (tAnd ta tb)) := ⟨okT_and ha.h hb.h⟩
theorem kokT_or {a b : Expr} {pos : Pos} {ta tb : XT} (ha : Bx (OkT c n cx a ta)) (hb : Bx (OkT c n cx b tb)) : Bx (OkT c n cx (.BoolOp .Or [a, b] pos) (tOr ta tb)) := ⟨okT_or ha.h hb.h⟩
theorem kokT_cmp {l r : Expr} {op : CmpOp} {pos : Pos} {xl xr : XE} {f : F2} (hl : Bx (Ok c n cx l xl)) (hr : Bx (Ok c n cx r xr)) (hf : Bx (Ok2 c n (compareOp op) f)) (hm : behindInMarks op r = false) : Bx (OkT c n cx (.Compare l [op] [r] pos) (tVal (x2 f xl xr))) := ⟨okT_cmp hl.h hr.h hf.h hm⟩
theorem kokT_chain {a b d : Expr} {op1 op2 : CmpOp} {pos : Pos} {xa xb xc : XE} {f g : F2} (ha : Bx (Ok c n cx a xa)) (hb : Bx (Ok c n cx b xb)) (hc : Bx (Ok c n cx d xc)) (hf : Bx (Ok2 c n (compareOp op1) f)) (hg : Bx (Ok2 c n (compareOp op2) g)) (hm : ∀ env, markedEach [op1, op2] [b, d] [eval b env, eval d env] = [eval b env, eval d env]) : Bx (OkT c n cx (.Compare a [op1, op2] [b, d] pos) (tChain f g xa xb xc)) := ⟨okT_chain ha.h hb.h hc.h hf.h hg.h hm⟩
theorem kokT_nil {l : Expr} {pos lp : Pos} {x : XE} (hl : Bx (Ok c n cx l x)) (hb : ∀ env, backTo lp (starEach [] env) = []) (hm : behindInMarks .NotEq (.List [] lp) = false) : Bx (OkT c n cx (.Compare l [.NotEq] [.List [] lp] pos) (tNil x)) := ⟨okT_nil hl.h hb hm⟩
theorem kokT_reprNe (B : Bs c K mg mb) {x : Str} {np pos np2 pos2 pos3 : Pos} {e e2 : Expr} {xe xe2 : XE} (hx : cx.scope.names.lookup x = some .globalImplicit) (hm : NameIs mg mb x (.builtin "repr")) (hd : (x == ("__debug__" : Str)) = false) (he : Bx (Ok c n cx e xe)) (he2 : Bx (Ok c n cx e2 xe2)) (hp : ∀ env pos, (backTo pos (starEach [e] env)) = [(false, eval e env)]) (hp2 : ∀ env pos, (backTo pos (starEach [e2] env)) = [(false, eval e2 env)]) (hb : behindInMarks .NotEq (.Call (.Name x np2) [e2] [] pos2) = false) : Bx (OkT c n cx (.Compare (.Call (.Name x np) [e] [] pos) [.NotEq] [.Call (.Name x np2) [e2] [] pos2] pos3) (tReprNe xe xe2)) := ⟨okT_reprNe B hx hm hd he.h he2.h hp hp2 hb⟩
theorem kokT_val {e : Expr} {x : XE} (h : Bx (Ok c n cx e x)) (he : ∀ env, isTrue e env (eval e env) = (do let v ← eval e env; standAt e.pos; holding [v] (truthy v))) : Bx (OkT c n cx e (tVal x)) := ⟨okT_val h.h he⟩
theorem kqT_cmp {l r : Expr} {op : CmpOp} {pos : Pos} {xl xr : XE} {f : F2} (hl : Bx (OkQ c n cx l xl)) (hr : Bx (OkQ c n cx r xr)) (hf : Bx (Qt2 c n (compareOp op) f)) (hm : behindInMarks op r = false) : Bx (OkQT c n cx (.Compare l [op] [r] pos) (tVal (x2 f xl xr))) := ⟨qT_cmp hl.h hr.h hf.h hm⟩
theorem kq_int {i : Int} {k : Nat} {pos : Pos} : Bx (OkQ c n cx (.Constant (.int i) k pos) (xConst (.at (.int i)))) := ⟨q_int ⟩
theorem kq_str {x : Str} (i : Nat) (hi : words[i]? = some x) {k : Nat} {pos : Pos} : Bx (OkQ c n cx (.Constant (.str x) k pos) (xConst (.at (.str i)))) := ⟨q_str i hi⟩
theorem kq_bytes {b : List UInt8} {k : Nat} {pos : Pos} : Bx (OkQ c n cx (.Constant (.bytes b) k pos) (xConst (.at (.bytes b)))) := ⟨q_bytes ⟩
theorem kq_none {k : Nat} {pos : Pos} : Bx (OkQ c n cx (.Constant .none k pos) (xConst (.at .none))) := ⟨q_none ⟩
theorem kq_bool {b : Bool} {k : Nat} {pos : Pos} : Bx (OkQ c n cx (.Constant (.bool b) k pos) (xConst (.at (.bool b)))) := ⟨q_bool ⟩
theorem kq_neg {z : Int} {k : Nat} {pos pos' : Pos} : Bx (OkQ c n cx (.UnaryOp .USub (.Constant (.int z) k pos) pos') (xConst (.at (.int (-z))))) := ⟨q_neg ⟩
theorem kq_var {x : Str} {pos : Pos} (i : Nat) (hi : cx.slots[i]? = some x) (hd : (x == ("__debug__" : Str)) = false) (hc : (x == ("__classdict__" : Str)) = false) : Bx (OkQ c n cx (.Name x pos) (xVar i)) := ⟨q_var i hi hd hc⟩
theorem kok_no {e : Expr} : Bx (OkQ c n cx e xNo) := ⟨ok_no ⟩
theorem kq_sub2 {value slice : Expr} {pos : Pos} {xv xi : XE} (hv : Bx (OkQ c n cx value xv)) (hi : Bx (OkQ c n cx slice xi)) (hs : ∀ o i, ∃ ops, subscripted slice false o i = operate ops (getItem o i)) : Bx (OkQ c n cx (.Subscript value slice pos) (x2 fItem xv xi)) := ⟨q_sub2 hv.h hi.h hs⟩
theorem kOkQ_ok {e : Expr} {x : XE} (h : Bx (OkQ c n cx e x)) : Bx (Ok c n cx e x) := ⟨OkQ.ok h.h⟩
theorem kQt2_ok {t : Value → Value → Sem Value} {f : F2} (h : Bx (Qt2 c n t f)) : Bx (Ok2 c n t f) := ⟨Qt2.ok h.h⟩
theorem kq_add : Bx (Qt2 c n (binaryOp .Add) (fI fun i j K => K (.int (i + j)))) := ⟨q_add ⟩
theorem kq_sub : Bx (Qt2 c n (binaryOp .Sub) (fI fun i j K => K (.int (i - j)))) := ⟨q_sub ⟩
theorem kq_or : Bx (Qt2 c n (binaryOp .BitOr) (fI fun i j K => K (.int (Builtin.bitOr i j)))) := ⟨q_or ⟩
theorem kq_mul : Bx (Qt2 c n (binaryOp .Mult) (fI gMul)) := ⟨q_mul ⟩
theorem kq_div : Bx (Qt2 c n (binaryOp .FloorDiv) (fI gDiv)) := ⟨q_div ⟩
theorem kq_mod : Bx (Qt2 c n (binaryOp .Mod) (fI gMod)) := ⟨q_mod ⟩
theorem kq_pow : Bx (Qt2 c n (binaryOp .Pow) (fI gPow)) := ⟨q_pow ⟩
theorem kq_shl : Bx (Qt2 c n (binaryOp .LShift) (fI gShl)) := ⟨q_shl ⟩
theorem kq_addY : Bx (Qt2 c n (binaryOp .Add) fAddY) := ⟨q_addY ⟩
theorem kadd_list_ok : Bx (Ok2 c n (binaryOp .Add) fAddL) := ⟨add_list_ok ⟩
theorem kq_lt : Bx (Qt2 c n (compareOp .Lt) (fC fun i j => decide (i < j))) := ⟨q_lt ⟩
theorem kq_le : Bx (Qt2 c n (compareOp .LtE) (fC fun i j => decide (i ≤ j))) := ⟨q_le ⟩
theorem kq_gt : Bx (Qt2 c n (compareOp .Gt) (fC fun i j => decide (j < i))) := ⟨q_gt ⟩
theorem kq_ge : Bx (Qt2 c n (compareOp .GtE) (fC fun i j => decide (j ≤ i))) := ⟨q_ge ⟩
theorem kq_eq : Bx (Qt2 c n (compareOp .Eq) (fC fun i j => i == j)) := ⟨q_eq ⟩
theorem kq_ne : Bx (Qt2 c n (compareOp .NotEq) (fC fun i j => i != j)) := ⟨q_ne ⟩
theorem kq_eqS : Bx (Qt2 c n (compareOp .Eq) (fEqS true)) := ⟨q_eqS ⟩
theorem kq_neS : Bx (Qt2 c n (compareOp .NotEq) (fEqS false)) := ⟨q_neS ⟩
theorem kq_neY : Bx (Qt2 c n (compareOp .NotEq) fNeY) := ⟨q_neY ⟩
theorem kq_neT : Bx (Qt2 c n (compareOp .NotEq) fNeT) := ⟨q_neT ⟩
theorem kq_neD : Bx (Qt2 c n (compareOp .NotEq) fNeD) := ⟨q_neD ⟩
theorem kq_eqL : Bx (Qt2 c n (compareOp .Eq) fEqL) := ⟨q_eqL ⟩
theorem kq_in : Bx (Qt2 c n (compareOp .In) (fInL true)) := ⟨q_in ⟩
theorem kq_notIn : Bx (Qt2 c n (compareOp .NotIn) (fInL false)) := ⟨q_notIn ⟩
theorem kq_inT : Bx (Qt2 c n (compareOp .In) fInT) := ⟨q_inT ⟩
theorem kq_inY : Bx (Qt2 c n (compareOp .In) fInY) := ⟨q_inY ⟩
theorem kq_inD : Bx (Qt2 c n (compareOp .In) (fInD true)) := ⟨q_inD ⟩
theorem kq_notInD : Bx (Qt2 c n (compareOp .NotIn) (fInD false)) := ⟨q_notInD ⟩
theorem kq_is : Bx (Qt2 c n (compareOp .Is) fIsNone) := ⟨q_is ⟩
theorem kokSrc_R {K₀ : Frag} {mg mb : Str → Option Value} (B : Bs c K₀ mg mb) {nm f : Str} {np fp pos : Pos} {e : Expr} {x : XE} (hx : cx.scope.names.lookup f = some .globalImplicit) (hm : NameIs mg mb f (.type "range")) (hd : (f == ("__debug__" : Str)) = false) (he : Bx (Ok c n cx e x)) (hp : ∀ env pos, (backTo pos (starEach [e] env)) = [(false, eval e env)]) : Bx (OkSrc c n cx top (.Name nm np) (.Call (.Name f fp) [e] [] pos) (xsR x)) := ⟨okSrc_R B hx hm hd he.h hp⟩
theorem kokSrc_E {K₀ : Frag} {mg mb : Str → Option Value} (B : Bs c K₀ mg mb) {elts : List Expr} {k0 : Nat} {f : Str} {np fp pos : Pos} {e : Expr} {x : XE} (hx : cx.scope.names.lookup f = some .globalImplicit) (hm : NameIs mg mb f (.type "enumerate")) (hd : (f == ("__debug__" : Str)) = false) (he : Bx (Ok c n cx e x)) (hp : ∀ env pos, (backTo pos (starEach [e] env)) = [(false, eval e env)]) : Bx (OkSrc c n cx false (.Tuple elts k0 np) (.Call (.Name f fp) [e] [] pos) (xsE x)) := ⟨okSrc_E B hx hm hd he.h hp⟩
theorem kokSrc_T {nm : Str} {np : Pos} {iter : Expr} {x : XE} (he : Bx (Ok c n cx iter x)) : Bx (OkSrc c n cx false (.Name nm np) iter (xsT x)) := ⟨okSrc_T he.h⟩
theorem kokSrc_Y {nm : Str} {np : Pos} {iter : Expr} {x : XE} (he : Bx (Ok c n cx iter x)) : Bx (OkSrc c n cx top (.Name nm np) iter (xsY x)) := ⟨okSrc_Y he.h⟩
theorem kokSrc_L {nm : Str} {np : Pos} {iter : Expr} {x : XE} (he : Bx (Ok c n cx iter x)) : Bx (OkSrc c n cx false (.Name nm np) iter (xsL x)) := ⟨okSrc_L he.h⟩
theorem kok_bd1 {x : Str} {pos : Pos} (i : Nat) (hi : cx.slots[i]? = some x) (hn : cx.slots.Nodup) (hk : KindOk cx x) : Bx (OkBd c n cx (.Name x pos) (bd1 i)) := ⟨ok_bd1 i hi hn hk⟩
theorem kok_bd2 {x y : Str} {px py : Pos} {k : Nat} {pos : Pos} (i j : Nat) (hi : cx.slots[i]? = some x) (hj : cx.slots[j]? = some y) (hn : cx.slots.Nodup) (hx : KindOk cx x) (hy : KindOk cx y) (ht : ∀ env, (assignEach [.Name x px, .Name y py] env).map (·.2) = [assign (.Name x px) env, assign (.Name y py) env]) (hst : ∀ env, (assignEach [.Name x px, .Name y py] env).findIdx? (·.1) = none) : Bx (OkBd c n cx (.Tuple [.Name x px, .Name y py] k pos) (bd2 i j)) := ⟨ok_bd2 i j hi hj hn hx hy ht hst⟩
theorem kokTu_disp {es : List Expr} {k : Nat} {pos : Pos} {x : XL} (h : Bx (OkL c n cx es x)) : Bx (OkTu c n cx (.Tuple es k pos) (xDisp x)) := ⟨okTu_disp h.h⟩
theorem kokTu_items {e : Expr} {x : XE} (h : Bx (Ok c n cx e x)) : Bx (OkTu c n cx e (xItems x)) := ⟨okTu_items h.h⟩
theorem kpart_none : Bx (PartOk c none none) := ⟨part_none ⟩
theorem kpart_int {z : Int} {k : Nat} {pos : Pos} : Bx (PartOk c (some (.Constant (.int z) k pos)) (some z)) := ⟨part_int ⟩
theorem kpart_neg {z : Int} {k : Nat} {pos pos' : Pos} : Bx (PartOk c (some (.UnaryOp .USub (.Constant (.int z) k pos) pos')) (some (-z))) := ⟨part_neg ⟩
theorem kokM_list {x : Str} {id : String} (slot : Slot "list" x id) (hty : typeOf (.builtin id) = pure (.type "method_descriptor")) {f : FL} (hf : Bx (OkF c n (.builtin id) f)) : Bx (OkM c n x (mList f)) := ⟨okM_list slot hty hf.h⟩
theorem kokM_dict {x : Str} {id : String} (slot : Slot "dict" x id) (hty : typeOf (.builtin id) = pure (.type "method_descriptor")) {f : FL} (hf : Bx (OkF c n (.builtin id) f)) : Bx (OkM c n x (mDict f)) := ⟨okM_dict slot hty hf.h⟩
theorem kokM_inst (B : Bs c K mg mb) {C : Addr} (H : ClsOk K C) {x : Str} {fa : Addr} {fn : FL} (hf : findIn K (.ref C) x = some (some (.ref fa))) (ht : typeIn K (.ref fa) = some (.type "function")) (hsh : x ∉ words) (hk : KeepOk c (.ref fa)) (hfn : Bx (OkF c n (.ref fa) fn)) : Bx (OkM c n x (mInst C fn)) := ⟨okM_inst B H hf ht hsh hk hfn.h⟩
theorem kok_fl1 {fv : Value} {f : F1} (hf : Bx (Ok1 c n (fun v => call fv [v]) f)) : Bx (OkF c n fv (fl1 f)) := ⟨ok_fl1 hf.h⟩
theorem kok_fl2 {fv : Value} {f : F2} (hf : Bx (Ok2 c n (fun u v => call fv [u, v]) f)) : Bx (OkF c n fv (fl2 f)) := ⟨ok_fl2 hf.h⟩
theorem klen_ok : Bx (Ok1 c n (fun v => call (.builtin "len") [v]) fLen) := ⟨len_ok ⟩
theorem kint_ok : Bx (Ok1 c n (fun v => call (.type "int") [v]) (f1I id)) := ⟨int_ok ⟩
theorem kbytes_ok : Bx (Ok1 c n (fun v => call (.type "bytes") [v]) fBytes) := ⟨bytes_ok ⟩
theorem klist_list_ok : Bx (Ok1 c n (fun v => call (.type "list") [v]) fList) := ⟨list_list_ok ⟩
theorem klist_dict_ok : Bx (Ok1 c n (fun v => call (.type "list") [v]) fListD) := ⟨list_dict_ok ⟩
theorem kappend_ok : Bx (Ok2 c n (fun u v => call (.builtin "list.append") [u, v]) fAppend) := ⟨append_ok ⟩
theorem kpop_ok : Bx (Ok1 c n (fun v => call (.builtin "list.pop") [v]) fPop) := ⟨pop_ok ⟩
theorem kpop0_ok : Bx (Ok2 c n (fun u v => call (.builtin "list.pop") [u, v]) fPop0) := ⟨pop0_ok ⟩
theorem kdpop_ok : Bx (Ok2 c n (fun u v => call (.builtin "dict.pop") [u, v]) fDPop) := ⟨dpop_ok ⟩
theorem kindex_ok : Bx (Ok2 c n (fun u v => call (.builtin "list.index") [u, v]) fIndex) := ⟨index_ok ⟩
theorem kput_ok : Bx (Ok3 c n (fun a x v => setItem a x v) fPut) := ⟨put_ok ⟩
theorem kset_ok (B : Bs c K mg mb) {C : Addr} (H : ClsOk K C) {nm : Nat} {x : Str} (hx : words[nm]? = some x) (ht : takerIn K C x = some none) : Bx (Ok2u c n (fun a b => setAttr a x b) (fSet C nm)) := ⟨set_ok B H hx ht⟩
theorem kokC_def (B : Bs c K mg mb) {fa : Addr} {fd : FuncData} {body : List Stmt} {names : List Str} (others : List Str) {xb : XS} (D : DefOk c fa fd names body) (hok : Bx (OkB c n ⟨fd.scope, names ++ others⟩ false body xb)) : Bx (OkC c (n + 1) (.ref fa) (fDef names.length others.length xb)) := ⟨okC_def B others D hok.h⟩
theorem kokC_make (B : Bs c K mg mb) {C : Addr} (hm : makesIn K C = true) {fI : Addr} {fn : FL} (hi : findIn K (.ref C) "__init__" = some (some (.ref fI))) (hf : typeIn K (.ref fI) = some (.type "function")) (hfn : Bx (OkC c n (.ref fI) fn)) : Bx (OkC c (n + 1) (.ref C) (fMake C fn)) := ⟨okC_make B hm hi hf hfn.h⟩
theorem kup {m : Nat} {fv : Value} {f : FL} (h : n ≤ m) (C : Bx (OkC c n fv f)) : Bx (OkF c m fv f) := ⟨OkF.mono h C.h.toF⟩
theorem kg {e : Expr} {x : XE} (h : OkQ c n cx e x) : Bx (OkQ c n cx e x) := ⟨h⟩
end
end Og
end

section
open PySem PySem.W PySem.Calls PyProof.Rows
set_option Elab.async false
set_option linter.unusedVariables false
set_option genSizeOf false
set_option genInjectivity false
set_option maxRecDepth 100000
set_option maxHeartbeats 1000000
namespace Og
section
variable {c : Cf} {mg mb : Str → Option Value}
abbrev os_rgb_number : List Str := []
noncomputable abbrev x_rgb_number : Ctx := ⟨s_rgb_number, (["red", "green", "blue"] : List Str) ++ os_rgb_number⟩
theorem w_rgb_number (B : Bs c (hk c.w.params) mg mb) (bb : ∀ x : Str, x ≠ "__name__" → mb x = bootBuiltins x) : Bx (OkB c 0 x_rgb_number false b_rgb_number d_rgb_number) :=
  (kokB_cons (kokS_ret (kok_bin (kok_bin (kok_bin (kOkQ_ok (kq_var 0 rfl rfl rfl)) (kOkQ_ok kq_int) (kQt2_ok kq_shl)) (kok_bin (kOkQ_ok (kq_var 1 rfl rfl rfl)) (kOkQ_ok kq_int) (kQt2_ok kq_shl)) (kQt2_ok kq_or)) (kOkQ_ok (kq_var 2 rfl rfl rfl)) (kQt2_ok kq_or))) kokB_nil)

theorem c_rgb_number (B : Bs c (hk c.w.params) mg mb) (bb : ∀ x : Str, x ≠ "__name__" → mb x = bootBuiltins x) : Bx (OkC c 1 (.ref 29) f_rgb_number) :=
  kokC_def B os_rgb_number (names := ["red", "green", "blue"]) (fd := fd_rgb_number) (body := b_rgb_number) (def_rgb_number B) (w_rgb_number B bb)

abbrev os_palette_rgb : List Str := ["level", "place"]
noncomputable abbrev x_palette_rgb : Ctx := ⟨s_palette_rgb, (["index"] : List Str) ++ os_palette_rgb⟩
theorem w_palette_rgb (B : Bs c (hk c.w.params) mg mb) (bb : ∀ x : Str, x ≠ "__name__" → mb x = bootBuiltins x) : Bx (OkB c 1 x_palette_rgb false b_palette_rgb d_palette_rgb) :=
  (kokB_cons (kokS_if (kokT_cmp (kOkQ_ok (kq_var 0 rfl rfl rfl)) (kOkQ_ok (kg (g_FIRST_CUBE B rfl))) (kQt2_ok kq_lt) rfl) (kokB_cons (kokS_ret (kOkQ_ok kok_no)) kokB_nil) kokB_nil) (kokB_cons (kokS_if (kokT_cmp (kOkQ_ok (kq_var 0 rfl rfl rfl)) (kOkQ_ok (kg (g_FIRST_GRAY B rfl))) (kQt2_ok kq_lt) rfl) (kokB_cons (kokS_set 2 rfl (by decide) (.inl rfl) (kok_bin (kOkQ_ok (kq_var 0 rfl rfl rfl)) (kOkQ_ok (kg (g_FIRST_CUBE B rfl))) (kQt2_ok kq_sub)) (fun _ => rfl)) (kokB_cons (kokS_ret (kok_call B rfl (nm_rgb_number B) rfl (kp_rgb_number B) (kup (by decide) (c_rgb_number B bb)) (kokL_cons (kok_sub (kOkQ_ok (kg (g_CUBE_LEVELS B rfl))) (kok_bin (kOkQ_ok (kq_var 2 rfl rfl rfl)) (kOkQ_ok kq_int) (kQt2_ok kq_div)) (fun _ _ => ⟨_, rfl⟩)) (kokL_cons (kok_sub (kOkQ_ok (kg (g_CUBE_LEVELS B rfl))) (kok_bin (kok_bin (kOkQ_ok (kq_var 2 rfl rfl rfl)) (kOkQ_ok kq_int) (kQt2_ok kq_div)) (kOkQ_ok kq_int) (kQt2_ok kq_mod)) (fun _ _ => ⟨_, rfl⟩)) (kokL_cons (kok_sub (kOkQ_ok (kg (g_CUBE_LEVELS B rfl))) (kok_bin (kOkQ_ok (kq_var 2 rfl rfl rfl)) (kOkQ_ok kq_int) (kQt2_ok kq_mod)) (fun _ _ => ⟨_, rfl⟩)) kokL_nil (fun _ => rfl)) (fun _ => rfl)) (fun _ => rfl)) (fun _ => rfl))) kokB_nil)) kokB_nil) (kokB_cons (kokS_set 1 rfl (by decide) (.inl rfl) (kok_bin (kOkQ_ok kq_int) (kok_bin (kOkQ_ok kq_int) (kok_bin (kOkQ_ok (kq_var 0 rfl rfl rfl)) (kOkQ_ok (kg (g_FIRST_GRAY B rfl))) (kQt2_ok kq_sub)) (kQt2_ok kq_mul)) (kQt2_ok kq_add)) (fun _ => rfl)) (kokB_cons (kokS_ret (kok_call B rfl (nm_rgb_number B) rfl (kp_rgb_number B) (kup (by decide) (c_rgb_number B bb)) (kokL_cons (kOkQ_ok (kq_var 1 rfl rfl rfl)) (kokL_cons (kOkQ_ok (kq_var 1 rfl rfl rfl)) (kokL_cons (kOkQ_ok (kq_var 1 rfl rfl rfl)) kokL_nil (fun _ => rfl)) (fun _ => rfl)) (fun _ => rfl)) (fun _ => rfl))) kokB_nil))))

theorem c_palette_rgb (B : Bs c (hk c.w.params) mg mb) (bb : ∀ x : Str, x ≠ "__name__" → mb x = bootBuiltins x) : Bx (OkC c 2 (.ref 36) f_palette_rgb) :=
  kokC_def B os_palette_rgb (names := ["index"]) (fd := fd_palette_rgb) (body := b_palette_rgb) (def_palette_rgb B) (w_palette_rgb B bb)

abbrev os_T_init : List Str := []
noncomputable abbrev x_T_init : Ctx := ⟨s_T_init, (["self"] : List Str) ++ os_T_init⟩
theorem w_T_init (B : Bs c (hk c.w.params) mg mb) (bb : ∀ x : Str, x ≠ "__name__" → mb x = bootBuiltins x) : Bx (OkB c 0 x_T_init false b_T_init d_T_init) :=
  (kokB_cons (kokS_attr (kOkQ_ok kq_bytes) (kOkQ_ok (kq_var 0 rfl rfl rfl)) (kset_ok B (cls_T (P := c.w.params)) rfl rfl) (fun _ => rfl)) (kokB_cons (kokS_attr (kOkQ_ok kq_bytes) (kOkQ_ok (kq_var 0 rfl rfl rfl)) (kset_ok B (cls_T (P := c.w.params)) rfl rfl) (fun _ => rfl)) (kokB_cons (kokS_attr (kok_list kokL_nil) (kOkQ_ok (kq_var 0 rfl rfl rfl)) (kset_ok B (cls_T (P := c.w.params)) rfl rfl) (fun _ => rfl)) kokB_nil)))

theorem c_T_init (B : Bs c (hk c.w.params) mg mb) (bb : ∀ x : Str, x ≠ "__name__" → mb x = bootBuiltins x) : Bx (OkC c 1 (.ref 50) f_T_init) :=
  kokC_def B os_T_init (names := ["self"]) (fd := fd_T_init) (body := b_T_init) (def_T_init B) (w_T_init B bb)

theorem mk_T (B : Bs c (hk c.w.params) mg mb) (bb : ∀ x : Str, x ≠ "__name__" → mb x = bootBuiltins x) : Bx (OkC c 2 (.ref 74) m_T) :=
  kokC_make B rfl rfl rfl (c_T_init B bb)

abbrev os_T_put : List Str := []
noncomputable abbrev x_T_put : Ctx := ⟨s_T_put, (["self", "which", "octets"] : List Str) ++ os_T_put⟩
theorem w_T_put (B : Bs c (hk c.w.params) mg mb) (bb : ∀ x : Str, x ≠ "__name__" → mb x = bootBuiltins x) : Bx (OkB c 0 x_T_put false b_T_put d_T_put) :=
  (kokB_cons (kokS_if (kokT_cmp (kOkQ_ok (kq_var 1 rfl rfl rfl)) (kOkQ_ok (kg (g_WINDOW_TITLE B rfl))) (kQt2_ok kq_ne) rfl) (kokB_cons (kokS_attr (kOkQ_ok (kq_var 2 rfl rfl rfl)) (kOkQ_ok (kq_var 0 rfl rfl rfl)) (kset_ok B (cls_T (P := c.w.params)) rfl rfl) (fun _ => rfl)) kokB_nil) kokB_nil) (kokB_cons (kokS_if (kokT_cmp (kOkQ_ok (kq_var 1 rfl rfl rfl)) (kOkQ_ok (kg (g_ICON_TITLE B rfl))) (kQt2_ok kq_ne) rfl) (kokB_cons (kokS_attr (kOkQ_ok (kq_var 2 rfl rfl rfl)) (kOkQ_ok (kq_var 0 rfl rfl rfl)) (kset_ok B (cls_T (P := c.w.params)) rfl rfl) (fun _ => rfl)) kokB_nil) kokB_nil) kokB_nil))

theorem c_T_put (B : Bs c (hk c.w.params) mg mb) (bb : ∀ x : Str, x ≠ "__name__" → mb x = bootBuiltins x) : Bx (OkC c 1 (.ref 57) f_T_put) :=
  kokC_def B os_T_put (names := ["self", "which", "octets"]) (fd := fd_T_put) (body := b_T_put) (def_T_put B) (w_T_put B bb)

abbrev os_T_push : List Str := []
noncomputable abbrev x_T_push : Ctx := ⟨s_T_push, (["self", "most"] : List Str) ++ os_T_push⟩
theorem w_T_push (B : Bs c (hk c.w.params) mg mb) (bb : ∀ x : Str, x ≠ "__name__" → mb x = bootBuiltins x) : Bx (OkB c 0 x_T_push false b_T_push d_T_push) :=
  (kokB_cons (kokS_expr (kok_method _ (kokM_list PySem.F.slot_list_append rfl (kok_fl2 kappend_ok)) (kok_attr B (cls_T (P := c.w.params)) 12 rfl rfl (kOkQ_ok (kq_var 0 rfl rfl rfl)) (fun _ => by with_unfolding_all rfl)) (kokL_cons (kok_tuple (kokL_cons (kok_attr B (cls_T (P := c.w.params)) 10 rfl rfl (kOkQ_ok (kq_var 0 rfl rfl rfl)) (fun _ => by with_unfolding_all rfl)) (kokL_cons (kok_attr B (cls_T (P := c.w.params)) 11 rfl rfl (kOkQ_ok (kq_var 0 rfl rfl rfl)) (fun _ => by with_unfolding_all rfl)) kokL_nil (fun _ => rfl)) (fun _ => rfl))) kokL_nil (fun _ => rfl)) (fun _ _ => rfl) (fun _ => rfl)) (fun _ => rfl)) (kokB_cons (kokS_if (kokT_cmp (kok_call B rfl (b_len B bb) rfl keep_builtin (kok_fl1 klen_ok) (kokL_cons (kok_attr B (cls_T (P := c.w.params)) 12 rfl rfl (kOkQ_ok (kq_var 0 rfl rfl rfl)) (fun _ => by with_unfolding_all rfl)) kokL_nil (fun _ => rfl)) (fun _ => rfl)) (kOkQ_ok (kq_var 1 rfl rfl rfl)) (kQt2_ok kq_gt) rfl) (kokB_cons (kokS_expr (kok_method _ (kokM_list PySem.F.slot_list_pop rfl (kok_fl2 kpop0_ok)) (kok_attr B (cls_T (P := c.w.params)) 12 rfl rfl (kOkQ_ok (kq_var 0 rfl rfl rfl)) (fun _ => by with_unfolding_all rfl)) (kokL_cons (kOkQ_ok kq_int) kokL_nil (fun _ => rfl)) (fun _ _ => rfl) (fun _ => rfl)) (fun _ => rfl)) kokB_nil) kokB_nil) kokB_nil))

theorem c_T_push (B : Bs c (hk c.w.params) mg mb) (bb : ∀ x : Str, x ≠ "__name__" → mb x = bootBuiltins x) : Bx (OkC c 1 (.ref 64) f_T_push) :=
  kokC_def B os_T_push (names := ["self", "most"]) (fd := fd_T_push) (body := b_T_push) (def_T_push B) (w_T_push B bb)

abbrev os_T_pop : List Str := ["icon", "window"]
noncomputable abbrev x_T_pop : Ctx := ⟨s_T_pop, (["self", "which"] : List Str) ++ os_T_pop⟩
theorem w_T_pop (B : Bs c (hk c.w.params) mg mb) (bb : ∀ x : Str, x ≠ "__name__" → mb x = bootBuiltins x) : Bx (OkB c 0 x_T_pop false b_T_pop d_T_pop) :=
  (kokB_cons (kokS_if (kokT_nil (kok_attr B (cls_T (P := c.w.params)) 12 rfl rfl (kOkQ_ok (kq_var 0 rfl rfl rfl)) (fun _ => by with_unfolding_all rfl)) (fun _ => rfl) rfl) (kokB_cons (kokS_many [2, 3] (by decide) (fun _ => (.cons (stores_name rfl (.inl rfl)) (.cons (stores_name rfl (.inl rfl)) .nil))) (fun _ => rfl) (kokTu_items (kok_method _ (kokM_list PySem.F.slot_list_pop rfl (kok_fl1 kpop_ok)) (kok_attr B (cls_T (P := c.w.params)) 12 rfl rfl (kOkQ_ok (kq_var 0 rfl rfl rfl)) (fun _ => by with_unfolding_all rfl)) kokL_nil (fun _ _ => rfl) (fun _ => rfl))) (fun _ => rfl) (fun _ _ => rfl)) (kokB_cons (kokS_if (kokT_cmp (kOkQ_ok (kq_var 1 rfl rfl rfl)) (kOkQ_ok (kg (g_WINDOW_TITLE B rfl))) (kQt2_ok kq_ne) rfl) (kokB_cons (kokS_attr (kOkQ_ok (kq_var 2 rfl rfl rfl)) (kOkQ_ok (kq_var 0 rfl rfl rfl)) (kset_ok B (cls_T (P := c.w.params)) rfl rfl) (fun _ => rfl)) kokB_nil) kokB_nil) (kokB_cons (kokS_if (kokT_cmp (kOkQ_ok (kq_var 1 rfl rfl rfl)) (kOkQ_ok (kg (g_ICON_TITLE B rfl))) (kQt2_ok kq_ne) rfl) (kokB_cons (kokS_attr (kOkQ_ok (kq_var 3 rfl rfl rfl)) (kOkQ_ok (kq_var 0 rfl rfl rfl)) (kset_ok B (cls_T (P := c.w.params)) rfl rfl) (fun _ => rfl)) kokB_nil) kokB_nil) kokB_nil))) kokB_nil) kokB_nil)

theorem c_T_pop (B : Bs c (hk c.w.params) mg mb) (bb : ∀ x : Str, x ≠ "__name__" → mb x = bootBuiltins x) : Bx (OkC c 1 (.ref 71) f_T_pop) :=
  kokC_def B os_T_pop (names := ["self", "which"]) (fd := fd_T_pop) (body := b_T_pop) (def_T_pop B) (w_T_pop B bb)

abbrev os_P_init : List Str := []
noncomputable abbrev x_P_init : Ctx := ⟨s_P_init, (["self", "fore", "back"] : List Str) ++ os_P_init⟩
theorem w_P_init (B : Bs c (hk c.w.params) mg mb) (bb : ∀ x : Str, x ≠ "__name__" → mb x = bootBuiltins x) : Bx (OkB c 0 x_P_init false b_P_init d_P_init) :=
  (kokB_cons (kokS_attr (kOkQ_ok (kq_var 1 rfl rfl rfl)) (kOkQ_ok (kq_var 0 rfl rfl rfl)) (kset_ok B (cls_P (P := c.w.params)) rfl rfl) (fun _ => rfl)) (kokB_cons (kokS_attr (kOkQ_ok (kq_var 2 rfl rfl rfl)) (kOkQ_ok (kq_var 0 rfl rfl rfl)) (kset_ok B (cls_P (P := c.w.params)) rfl rfl) (fun _ => rfl)) (kokB_cons (kokS_attr (kok_empty (b := false)) (kOkQ_ok (kq_var 0 rfl rfl rfl)) (kset_ok B (cls_P (P := c.w.params)) rfl rfl) (fun _ => rfl)) kokB_nil)))

theorem c_P_init (B : Bs c (hk c.w.params) mg mb) (bb : ∀ x : Str, x ≠ "__name__" → mb x = bootBuiltins x) : Bx (OkC c 1 (.ref 93) f_P_init) :=
  kokC_def B os_P_init (names := ["self", "fore", "back"]) (fd := fd_P_init) (body := b_P_init) (def_P_init B) (w_P_init B bb)

theorem mk_P (B : Bs c (hk c.w.params) mg mb) (bb : ∀ x : Str, x ≠ "__name__" → mb x = bootBuiltins x) : Bx (OkC c 2 (.ref 138) m_P) :=
  kokC_make B rfl rfl rfl (c_P_init B bb)

abbrev os_P_first : List Str := ["is_back"]
noncomputable abbrev x_P_first : Ctx := ⟨s_P_first, (["self", "key"] : List Str) ++ os_P_first⟩
theorem w_P_first (B : Bs c (hk c.w.params) mg mb) (bb : ∀ x : Str, x ≠ "__name__" → mb x = bootBuiltins x) : Bx (OkB c 2 x_P_first false b_P_first d_P_first) :=
  (kokB_cons (kokS_if (kokT_cmp (kOkQ_ok (kq_sub2 (kq_var 1 rfl rfl rfl) kq_int (fun _ _ => ⟨_, rfl⟩))) (kOkQ_ok (kq_str 0 rfl)) (kQt2_ok kq_eqS) rfl) (kokB_cons (kokS_ret (kok_call B rfl (nm_palette_rgb B) rfl (kp_palette_rgb B) (kup (by decide) (c_palette_rgb B bb)) (kokL_cons (kOkQ_ok (kq_sub2 (kq_var 1 rfl rfl rfl) kq_int (fun _ _ => ⟨_, rfl⟩))) kokL_nil (fun _ => rfl)) (fun _ => rfl))) kokB_nil) kokB_nil) (kokB_cons (kokS_set 2 rfl (by decide) (.inl rfl) (kok_and2 (kok_cmp (kOkQ_ok (kq_sub2 (kq_var 1 rfl rfl rfl) kq_int (fun _ _ => ⟨_, rfl⟩))) (kOkQ_ok (kq_str 2 rfl)) (kQt2_ok kq_eqS) rfl) (kok_cmp (kOkQ_ok (kq_sub2 (kq_var 1 rfl rfl rfl) kq_int (fun _ _ => ⟨_, rfl⟩))) (kok_tuple (kokL_cons (kOkQ_ok kq_int) (kokL_cons (kOkQ_ok kq_int) (kokL_cons (kOkQ_ok kq_int) (kokL_cons (kOkQ_ok kq_int) kokL_nil (fun _ => rfl)) (fun _ => rfl)) (fun _ => rfl)) (fun _ => rfl))) (kQt2_ok kq_inT) rfl)) (fun _ => rfl)) (kokB_cons (kokS_ret (kok_ifexp (kokT_val (kOkQ_ok (kq_var 2 rfl rfl rfl)) (fun _ => rfl)) (kok_attr B (cls_P (P := c.w.params)) 6 rfl rfl (kOkQ_ok (kq_var 0 rfl rfl rfl)) (fun _ => by with_unfolding_all rfl)) (kok_attr B (cls_P (P := c.w.params)) 5 rfl rfl (kOkQ_ok (kq_var 0 rfl rfl rfl)) (fun _ => by with_unfolding_all rfl)))) kokB_nil)))

theorem c_P_first (B : Bs c (hk c.w.params) mg mb) (bb : ∀ x : Str, x ≠ "__name__" → mb x = bootBuiltins x) : Bx (OkC c 3 (.ref 100) f_P_first) :=
  kokC_def B os_P_first (names := ["self", "key"]) (fd := fd_P_first) (body := b_P_first) (def_P_first B) (w_P_first B bb)

abbrev os_P_rgb : List Str := []
noncomputable abbrev x_P_rgb : Ctx := ⟨s_P_rgb, (["self", "key"] : List Str) ++ os_P_rgb⟩
theorem w_P_rgb (B : Bs c (hk c.w.params) mg mb) (bb : ∀ x : Str, x ≠ "__name__" → mb x = bootBuiltins x) : Bx (OkB c 3 x_P_rgb false b_P_rgb d_P_rgb) :=
  (kokB_cons (kokS_ret (kok_ifexp (kokT_cmp (kOkQ_ok (kq_var 1 rfl rfl rfl)) (kok_attr B (cls_P (P := c.w.params)) 7 rfl rfl (kOkQ_ok (kq_var 0 rfl rfl rfl)) (fun _ => by with_unfolding_all rfl)) (kQt2_ok kq_inD) rfl) (kok_sub (kok_attr B (cls_P (P := c.w.params)) 7 rfl rfl (kOkQ_ok (kq_var 0 rfl rfl rfl)) (fun _ => by with_unfolding_all rfl)) (kOkQ_ok (kq_var 1 rfl rfl rfl)) (fun _ _ => ⟨_, rfl⟩)) (kok_method _ (kokM_inst B (cls_P (P := c.w.params)) rfl rfl (by decide) (kp_P_first B) (kup (by decide) (c_P_first B bb))) (kOkQ_ok (kq_var 0 rfl rfl rfl)) (kokL_cons (kOkQ_ok (kq_var 1 rfl rfl rfl)) kokL_nil (fun _ => rfl)) (fun _ _ => rfl) (fun _ => rfl)))) kokB_nil)

theorem c_P_rgb (B : Bs c (hk c.w.params) mg mb) (bb : ∀ x : Str, x ≠ "__name__" → mb x = bootBuiltins x) : Bx (OkC c 4 (.ref 107) f_P_rgb) :=
  kokC_def B os_P_rgb (names := ["self", "key"]) (fd := fd_P_rgb) (body := b_P_rgb) (def_P_rgb B) (w_P_rgb B bb)

abbrev os_P_put : List Str := []
noncomputable abbrev x_P_put : Ctx := ⟨s_P_put, (["self", "key", "rgb"] : List Str) ++ os_P_put⟩
theorem w_P_put (B : Bs c (hk c.w.params) mg mb) (bb : ∀ x : Str, x ≠ "__name__" → mb x = bootBuiltins x) : Bx (OkB c 3 x_P_put false b_P_put d_P_put) :=
  (kokB_cons (kokS_item (kOkQ_ok (kq_var 2 rfl rfl rfl)) (kok_attr B (cls_P (P := c.w.params)) 7 rfl rfl (kOkQ_ok (kq_var 0 rfl rfl rfl)) (fun _ => by with_unfolding_all rfl)) (kOkQ_ok (kq_var 1 rfl rfl rfl)) kput_ok (fun _ => rfl)) (kokB_cons (kokS_if (kokT_cmp (kOkQ_ok (kq_var 2 rfl rfl rfl)) (kok_method _ (kokM_inst B (cls_P (P := c.w.params)) rfl rfl (by decide) (kp_P_first B) (kup (by decide) (c_P_first B bb))) (kOkQ_ok (kq_var 0 rfl rfl rfl)) (kokL_cons (kOkQ_ok (kq_var 1 rfl rfl rfl)) kokL_nil (fun _ => rfl)) (fun _ _ => rfl) (fun _ => rfl)) (kQt2_ok kq_eq) rfl) (kokB_cons (kokS_expr (kok_method _ (kokM_dict PySem.F.slot_dict_pop rfl (kok_fl2 kdpop_ok)) (kok_attr B (cls_P (P := c.w.params)) 7 rfl rfl (kOkQ_ok (kq_var 0 rfl rfl rfl)) (fun _ => by with_unfolding_all rfl)) (kokL_cons (kOkQ_ok (kq_var 1 rfl rfl rfl)) kokL_nil (fun _ => rfl)) (fun _ _ => rfl) (fun _ => rfl)) (fun _ => rfl)) kokB_nil) kokB_nil) kokB_nil))

theorem c_P_put (B : Bs c (hk c.w.params) mg mb) (bb : ∀ x : Str, x ≠ "__name__" → mb x = bootBuiltins x) : Bx (OkC c 4 (.ref 114) f_P_put) :=
  kokC_def B os_P_put (names := ["self", "key", "rgb"]) (fd := fd_P_put) (body := b_P_put) (def_P_put B) (w_P_put B bb)

abbrev os_P_put_back : List Str := []
noncomputable abbrev x_P_put_back : Ctx := ⟨s_P_put_back, (["self", "key"] : List Str) ++ os_P_put_back⟩
theorem w_P_put_back (B : Bs c (hk c.w.params) mg mb) (bb : ∀ x : Str, x ≠ "__name__" → mb x = bootBuiltins x) : Bx (OkB c 0 x_P_put_back false b_P_put_back d_P_put_back) :=
  (kokB_cons (kokS_if (kokT_cmp (kOkQ_ok (kq_var 1 rfl rfl rfl)) (kok_attr B (cls_P (P := c.w.params)) 7 rfl rfl (kOkQ_ok (kq_var 0 rfl rfl rfl)) (fun _ => by with_unfolding_all rfl)) (kQt2_ok kq_inD) rfl) (kokB_cons (kokS_expr (kok_method _ (kokM_dict PySem.F.slot_dict_pop rfl (kok_fl2 kdpop_ok)) (kok_attr B (cls_P (P := c.w.params)) 7 rfl rfl (kOkQ_ok (kq_var 0 rfl rfl rfl)) (fun _ => by with_unfolding_all rfl)) (kokL_cons (kOkQ_ok (kq_var 1 rfl rfl rfl)) kokL_nil (fun _ => rfl)) (fun _ _ => rfl) (fun _ => rfl)) (fun _ => rfl)) kokB_nil) kokB_nil) kokB_nil)

theorem c_P_put_back (B : Bs c (hk c.w.params) mg mb) (bb : ∀ x : Str, x ≠ "__name__" → mb x = bootBuiltins x) : Bx (OkC c 1 (.ref 121) f_P_put_back) :=
  kokC_def B os_P_put_back (names := ["self", "key"]) (fd := fd_P_put_back) (body := b_P_put_back) (def_P_put_back B) (w_P_put_back B bb)

abbrev os_P_put_back_all : List Str := ["key"]
noncomputable abbrev x_P_put_back_all : Ctx := ⟨s_P_put_back_all, (["self", "word"] : List Str) ++ os_P_put_back_all⟩
theorem w_P_put_back_all (B : Bs c (hk c.w.params) mg mb) (bb : ∀ x : Str, x ≠ "__name__" → mb x = bootBuiltins x) : Bx (OkB c 0 x_P_put_back_all false b_P_put_back_all d_P_put_back_all) :=
  (kokB_cons (kokS_for (kokSrc_L (kok_call B rfl (b_list B bb) rfl keep_type (kok_fl1 klist_dict_ok) (kokL_cons (kok_attr B (cls_P (P := c.w.params)) 7 rfl rfl (kOkQ_ok (kq_var 0 rfl rfl rfl)) (fun _ => by with_unfolding_all rfl)) kokL_nil (fun _ => rfl)) (fun _ => rfl))) (kok_bd1 2 rfl (by decide) (.inl rfl)) (kokB_cons (kokS_if (kokT_cmp (kOkQ_ok (kq_sub2 (kq_var 2 rfl rfl rfl) kq_int (fun _ _ => ⟨_, rfl⟩))) (kOkQ_ok (kq_var 1 rfl rfl rfl)) (kQt2_ok kq_eqS) rfl) (kokB_cons (kokS_expr (kok_method _ (kokM_dict PySem.F.slot_dict_pop rfl (kok_fl2 kdpop_ok)) (kok_attr B (cls_P (P := c.w.params)) 7 rfl rfl (kOkQ_ok (kq_var 0 rfl rfl rfl)) (fun _ => by with_unfolding_all rfl)) (kokL_cons (kOkQ_ok (kq_var 2 rfl rfl rfl)) kokL_nil (fun _ => rfl)) (fun _ _ => rfl) (fun _ => rfl)) (fun _ => rfl)) kokB_nil) kokB_nil) kokB_nil) (fun _ _ => rfl)) kokB_nil)

theorem c_P_put_back_all (B : Bs c (hk c.w.params) mg mb) (bb : ∀ x : Str, x ≠ "__name__" → mb x = bootBuiltins x) : Bx (OkC c 1 (.ref 128) f_P_put_back_all) :=
  kokC_def B os_P_put_back_all (names := ["self", "word"]) (fd := fd_P_put_back_all) (body := b_P_put_back_all) (def_P_put_back_all B) (w_P_put_back_all B bb)

abbrev os_P_colour_rgb : List Str := []
noncomputable abbrev x_P_colour_rgb : Ctx := ⟨s_P_colour_rgb, (["self", "colour", "is_fore"] : List Str) ++ os_P_colour_rgb⟩
theorem w_P_colour_rgb (B : Bs c (hk c.w.params) mg mb) (bb : ∀ x : Str, x ≠ "__name__" → mb x = bootBuiltins x) : Bx (OkB c 4 x_P_colour_rgb false b_P_colour_rgb d_P_colour_rgb) :=
  (kokB_cons (kokS_if (kokT_cmp (kOkQ_ok (kq_var 1 rfl rfl rfl)) (kOkQ_ok (kg (g_DIRECT B rfl))) (kQt2_ok kq_ge) rfl) (kokB_cons (kokS_ret (kok_bin (kOkQ_ok (kq_var 1 rfl rfl rfl)) (kOkQ_ok (kg (g_DIRECT B rfl))) (kQt2_ok kq_sub))) kokB_nil) kokB_nil) (kokB_cons (kokS_if (kokT_cmp (kOkQ_ok (kq_var 1 rfl rfl rfl)) (kOkQ_ok kq_int) (kQt2_ok kq_ge) rfl) (kokB_cons (kokS_ret (kok_method _ (kokM_inst B (cls_P (P := c.w.params)) rfl rfl (by decide) (kp_P_rgb B) (kup (by decide) (c_P_rgb B bb))) (kOkQ_ok (kq_var 0 rfl rfl rfl)) (kokL_cons (kok_tuple (kokL_cons (kOkQ_ok (kq_str 0 rfl)) (kokL_cons (kOkQ_ok (kq_var 1 rfl rfl rfl)) kokL_nil (fun _ => rfl)) (fun _ => rfl))) kokL_nil (fun _ => rfl)) (fun _ _ => rfl) (fun _ => rfl))) kokB_nil) kokB_nil) (kokB_cons (kokS_ret (kok_method _ (kokM_inst B (cls_P (P := c.w.params)) rfl rfl (by decide) (kp_P_rgb B) (kup (by decide) (c_P_rgb B bb))) (kOkQ_ok (kq_var 0 rfl rfl rfl)) (kokL_cons (kok_tuple (kokL_cons (kOkQ_ok (kq_str 2 rfl)) (kokL_cons (kok_ifexp (kokT_val (kOkQ_ok (kq_var 2 rfl rfl rfl)) (fun _ => rfl)) (kOkQ_ok (kg (g_FIRST_DYNAMIC B rfl))) (kok_bin (kOkQ_ok (kg (g_FIRST_DYNAMIC B rfl))) (kOkQ_ok kq_int) (kQt2_ok kq_add))) kokL_nil (fun _ => rfl)) (fun _ => rfl))) kokL_nil (fun _ => rfl)) (fun _ _ => rfl) (fun _ => rfl))) kokB_nil)))

theorem c_P_colour_rgb (B : Bs c (hk c.w.params) mg mb) (bb : ∀ x : Str, x ≠ "__name__" → mb x = bootBuiltins x) : Bx (OkC c 5 (.ref 135) f_P_colour_rgb) :=
  kokC_def B os_P_colour_rgb (names := ["self", "colour", "is_fore"]) (fd := fd_P_colour_rgb) (body := b_P_colour_rgb) (def_P_colour_rgb B) (w_P_colour_rgb B bb)

abbrev os_L_init : List Str := []
noncomputable abbrev x_L_init : Ctx := ⟨s_L_init, (["self"] : List Str) ++ os_L_init⟩
theorem w_L_init (B : Bs c (hk c.w.params) mg mb) (bb : ∀ x : Str, x ≠ "__name__" → mb x = bootBuiltins x) : Bx (OkB c 0 x_L_init false b_L_init d_L_init) :=
  (kokB_cons (kokS_attr (kok_list kokL_nil) (kOkQ_ok (kq_var 0 rfl rfl rfl)) (kset_ok B (cls_L (P := c.w.params)) rfl rfl) (fun _ => rfl)) (kokB_cons (kokS_attr (kok_empty (b := true)) (kOkQ_ok (kq_var 0 rfl rfl rfl)) (kset_ok B (cls_L (P := c.w.params)) rfl rfl) (fun _ => rfl)) kokB_nil))

theorem c_L_init (B : Bs c (hk c.w.params) mg mb) (bb : ∀ x : Str, x ≠ "__name__" → mb x = bootBuiltins x) : Bx (OkC c 1 (.ref 156) f_L_init) :=
  kokC_def B os_L_init (names := ["self"]) (fd := fd_L_init) (body := b_L_init) (def_L_init B) (w_L_init B bb)

theorem mk_L (B : Bs c (hk c.w.params) mg mb) (bb : ∀ x : Str, x ≠ "__name__" → mb x = bootBuiltins x) : Bx (OkC c 2 (.ref 180) m_L) :=
  kokC_make B rfl rfl rfl (c_L_init B bb)

abbrev os_L_number_of_link : List Str := []
noncomputable abbrev x_L_number_of_link : Ctx := ⟨s_L_number_of_link, (["self", "word", "address", "most"] : List Str) ++ os_L_number_of_link⟩
theorem w_L_number_of_link (B : Bs c (hk c.w.params) mg mb) (bb : ∀ x : Str, x ≠ "__name__" → mb x = bootBuiltins x) : Bx (OkB c 0 x_L_number_of_link false b_L_number_of_link d_L_number_of_link) :=
  (kokB_cons (kokS_if (kokT_cmp (kok_tuple (kokL_cons (kOkQ_ok (kq_var 1 rfl rfl rfl)) (kokL_cons (kOkQ_ok (kq_var 2 rfl rfl rfl)) kokL_nil (fun _ => rfl)) (fun _ => rfl))) (kok_attr B (cls_L (P := c.w.params)) 9 rfl rfl (kOkQ_ok (kq_var 0 rfl rfl rfl)) (fun _ => by with_unfolding_all rfl)) (kQt2_ok kq_notInD) rfl) (kokB_cons (kokS_if (kokT_cmp (kok_call B rfl (b_len B bb) rfl keep_builtin (kok_fl1 klen_ok) (kokL_cons (kok_attr B (cls_L (P := c.w.params)) 8 rfl rfl (kOkQ_ok (kq_var 0 rfl rfl rfl)) (fun _ => by with_unfolding_all rfl)) kokL_nil (fun _ => rfl)) (fun _ => rfl)) (kOkQ_ok (kq_var 3 rfl rfl rfl)) (kQt2_ok kq_ge) rfl) (kokB_cons (kokS_ret (kOkQ_ok kq_int)) kokB_nil) kokB_nil) (kokB_cons (kokS_expr (kok_method _ (kokM_list PySem.F.slot_list_append rfl (kok_fl2 kappend_ok)) (kok_attr B (cls_L (P := c.w.params)) 8 rfl rfl (kOkQ_ok (kq_var 0 rfl rfl rfl)) (fun _ => by with_unfolding_all rfl)) (kokL_cons (kok_tuple (kokL_cons (kOkQ_ok (kq_var 1 rfl rfl rfl)) (kokL_cons (kOkQ_ok (kq_var 2 rfl rfl rfl)) kokL_nil (fun _ => rfl)) (fun _ => rfl))) kokL_nil (fun _ => rfl)) (fun _ _ => rfl) (fun _ => rfl)) (fun _ => rfl)) (kokB_cons (kokS_item (kok_call B rfl (b_len B bb) rfl keep_builtin (kok_fl1 klen_ok) (kokL_cons (kok_attr B (cls_L (P := c.w.params)) 8 rfl rfl (kOkQ_ok (kq_var 0 rfl rfl rfl)) (fun _ => by with_unfolding_all rfl)) kokL_nil (fun _ => rfl)) (fun _ => rfl)) (kok_attr B (cls_L (P := c.w.params)) 9 rfl rfl (kOkQ_ok (kq_var 0 rfl rfl rfl)) (fun _ => by with_unfolding_all rfl)) (kok_tuple (kokL_cons (kOkQ_ok (kq_var 1 rfl rfl rfl)) (kokL_cons (kOkQ_ok (kq_var 2 rfl rfl rfl)) kokL_nil (fun _ => rfl)) (fun _ => rfl))) kput_ok (fun _ => rfl)) kokB_nil))) kokB_nil) (kokB_cons (kokS_ret (kok_sub (kok_attr B (cls_L (P := c.w.params)) 9 rfl rfl (kOkQ_ok (kq_var 0 rfl rfl rfl)) (fun _ => by with_unfolding_all rfl)) (kok_tuple (kokL_cons (kOkQ_ok (kq_var 1 rfl rfl rfl)) (kokL_cons (kOkQ_ok (kq_var 2 rfl rfl rfl)) kokL_nil (fun _ => rfl)) (fun _ => rfl))) (fun _ _ => ⟨_, rfl⟩))) kokB_nil))

theorem c_L_number_of_link (B : Bs c (hk c.w.params) mg mb) (bb : ∀ x : Str, x ≠ "__name__" → mb x = bootBuiltins x) : Bx (OkC c 1 (.ref 163) f_L_number_of_link) :=
  kokC_def B os_L_number_of_link (names := ["self", "word", "address", "most"]) (fd := fd_L_number_of_link) (body := b_L_number_of_link) (def_L_number_of_link B) (w_L_number_of_link B bb)

abbrev os_L_address : List Str := []
noncomputable abbrev x_L_address : Ctx := ⟨s_L_address, (["self", "number"] : List Str) ++ os_L_address⟩
theorem w_L_address (B : Bs c (hk c.w.params) mg mb) (bb : ∀ x : Str, x ≠ "__name__" → mb x = bootBuiltins x) : Bx (OkB c 0 x_L_address false b_L_address d_L_address) :=
  (kokB_cons (kokS_ret (kok_ifexp (kokT_chain (kOkQ_ok kq_int) (kOkQ_ok (kq_var 1 rfl rfl rfl)) (kok_call B rfl (b_len B bb) rfl keep_builtin (kok_fl1 klen_ok) (kokL_cons (kok_attr B (cls_L (P := c.w.params)) 8 rfl rfl (kOkQ_ok (kq_var 0 rfl rfl rfl)) (fun _ => by with_unfolding_all rfl)) kokL_nil (fun _ => rfl)) (fun _ => rfl)) (kQt2_ok kq_le) (kQt2_ok kq_le) (fun _ => rfl)) (kok_sub (kok_sub (kok_attr B (cls_L (P := c.w.params)) 8 rfl rfl (kOkQ_ok (kq_var 0 rfl rfl rfl)) (fun _ => by with_unfolding_all rfl)) (kok_bin (kOkQ_ok (kq_var 1 rfl rfl rfl)) (kOkQ_ok kq_int) (kQt2_ok kq_sub)) (fun _ _ => ⟨_, rfl⟩)) (kOkQ_ok kq_int) (fun _ _ => ⟨_, rfl⟩)) (kOkQ_ok kq_bytes))) kokB_nil)

theorem c_L_address (B : Bs c (hk c.w.params) mg mb) (bb : ∀ x : Str, x ≠ "__name__" → mb x = bootBuiltins x) : Bx (OkC c 1 (.ref 170) f_L_address) :=
  kokC_def B os_L_address (names := ["self", "number"]) (fd := fd_L_address) (body := b_L_address) (def_L_address B) (w_L_address B bb)

abbrev os_L_word : List Str := []
noncomputable abbrev x_L_word : Ctx := ⟨s_L_word, (["self", "number"] : List Str) ++ os_L_word⟩
theorem w_L_word (B : Bs c (hk c.w.params) mg mb) (bb : ∀ x : Str, x ≠ "__name__" → mb x = bootBuiltins x) : Bx (OkB c 0 x_L_word false b_L_word d_L_word) :=
  (kokB_cons (kokS_ret (kok_ifexp (kokT_chain (kOkQ_ok kq_int) (kOkQ_ok (kq_var 1 rfl rfl rfl)) (kok_call B rfl (b_len B bb) rfl keep_builtin (kok_fl1 klen_ok) (kokL_cons (kok_attr B (cls_L (P := c.w.params)) 8 rfl rfl (kOkQ_ok (kq_var 0 rfl rfl rfl)) (fun _ => by with_unfolding_all rfl)) kokL_nil (fun _ => rfl)) (fun _ => rfl)) (kQt2_ok kq_le) (kQt2_ok kq_le) (fun _ => rfl)) (kok_sub (kok_sub (kok_attr B (cls_L (P := c.w.params)) 8 rfl rfl (kOkQ_ok (kq_var 0 rfl rfl rfl)) (fun _ => by with_unfolding_all rfl)) (kok_bin (kOkQ_ok (kq_var 1 rfl rfl rfl)) (kOkQ_ok kq_int) (kQt2_ok kq_sub)) (fun _ _ => ⟨_, rfl⟩)) (kOkQ_ok kq_int) (fun _ _ => ⟨_, rfl⟩)) (kOkQ_ok kq_bytes))) kokB_nil)

theorem c_L_word (B : Bs c (hk c.w.params) mg mb) (bb : ∀ x : Str, x ≠ "__name__" → mb x = bootBuiltins x) : Bx (OkC c 1 (.ref 177) f_L_word) :=
  kokC_def B os_L_word (names := ["self", "number"]) (fd := fd_L_word) (body := b_L_word) (def_L_word B) (w_L_word B bb)

abbrev os_osc_palette_key : List Str := []
noncomputable abbrev x_osc_palette_key : Ctx := ⟨s_osc_palette_key, (["number", "is_special"] : List Str) ++ os_osc_palette_key⟩
theorem w_osc_palette_key (B : Bs c (hk c.w.params) mg mb) (bb : ∀ x : Str, x ≠ "__name__" → mb x = bootBuiltins x) : Bx (OkB c 0 x_osc_palette_key false b_osc_palette_key d_osc_palette_key) :=
  (kokB_cons (kokS_if (kokT_cmp (kOkQ_ok (kq_var 0 rfl rfl rfl)) (kOkQ_ok kq_none) (kQt2_ok kq_is) rfl) (kokB_cons (kokS_ret (kOkQ_ok kq_none)) kokB_nil) kokB_nil) (kokB_cons (kokS_if (kokT_val (kOkQ_ok (kq_var 1 rfl rfl rfl)) (fun _ => rfl)) (kokB_cons (kokS_ret (kok_ifexp (kokT_cmp (kOkQ_ok (kq_var 0 rfl rfl rfl)) (kOkQ_ok (kg (g_SPECIAL_SIZE B rfl))) (kQt2_ok kq_lt) rfl) (kok_tuple (kokL_cons (kOkQ_ok (kq_str 1 rfl)) (kokL_cons (kOkQ_ok (kq_var 0 rfl rfl rfl)) kokL_nil (fun _ => rfl)) (fun _ => rfl))) (kOkQ_ok kq_none))) kokB_nil) kokB_nil) (kokB_cons (kokS_if (kokT_cmp (kOkQ_ok (kq_var 0 rfl rfl rfl)) (kOkQ_ok (kg (g_PALETTE_SIZE B rfl))) (kQt2_ok kq_lt) rfl) (kokB_cons (kokS_ret (kok_tuple (kokL_cons (kOkQ_ok (kq_str 0 rfl)) (kokL_cons (kOkQ_ok (kq_var 0 rfl rfl rfl)) kokL_nil (fun _ => rfl)) (fun _ => rfl)))) kokB_nil) kokB_nil) (kokB_cons (kokS_ret (kok_ifexp (kokT_cmp (kOkQ_ok (kq_var 0 rfl rfl rfl)) (kok_bin (kOkQ_ok (kg (g_PALETTE_SIZE B rfl))) (kOkQ_ok (kg (g_SPECIAL_SIZE B rfl))) (kQt2_ok kq_add)) (kQt2_ok kq_lt) rfl) (kok_tuple (kokL_cons (kOkQ_ok (kq_str 1 rfl)) (kokL_cons (kok_bin (kOkQ_ok (kq_var 0 rfl rfl rfl)) (kOkQ_ok (kg (g_PALETTE_SIZE B rfl))) (kQt2_ok kq_sub)) kokL_nil (fun _ => rfl)) (fun _ => rfl))) (kOkQ_ok kq_none))) kokB_nil))))

theorem c_osc_palette_key (B : Bs c (hk c.w.params) mg mb) (bb : ∀ x : Str, x ≠ "__name__" → mb x = bootBuiltins x) : Bx (OkC c 1 (.ref 191) f_osc_palette_key) :=
  kokC_def B os_osc_palette_key (names := ["number", "is_special"]) (fd := fd_osc_palette_key) (body := b_osc_palette_key) (def_osc_palette_key B) (w_osc_palette_key B bb)

abbrev os_osc_selections : List Str := ["found", "octet"]
noncomputable abbrev x_osc_selections : Ctx := ⟨s_osc_selections, (["octets"] : List Str) ++ os_osc_selections⟩
theorem w_osc_selections (B : Bs c (hk c.w.params) mg mb) (bb : ∀ x : Str, x ≠ "__name__" → mb x = bootBuiltins x) : Bx (OkB c 0 x_osc_selections false b_osc_selections d_osc_selections) :=
  (kokB_cons (kokS_set 1 rfl (by decide) (.inl rfl) (kok_list kokL_nil) (fun _ => rfl)) (kokB_cons (kokS_for (kokSrc_Y (kok_ifexp (kokT_cmp (kOkQ_ok (kq_var 0 rfl rfl rfl)) (kOkQ_ok kq_bytes) (kQt2_ok kq_neY) rfl) (kOkQ_ok (kq_var 0 rfl rfl rfl)) (kOkQ_ok kq_bytes))) (kok_bd1 2 rfl (by decide) (.inl rfl)) (kokB_cons (kokS_if (kokT_and (kokT_cmp (kOkQ_ok (kq_var 2 rfl rfl rfl)) (kOkQ_ok (kg (g_SELECTIONS B rfl))) (kQt2_ok kq_inY) rfl) (kokT_cmp (kok_bytes B rfl (b_bytes B bb) rfl (kokL_cons (kOkQ_ok (kq_var 2 rfl rfl rfl)) kokL_nil (fun _ => rfl)) (fun _ _ => rfl)) (kOkQ_ok (kq_var 1 rfl rfl rfl)) (kQt2_ok kq_notIn) rfl)) (kokB_cons (kokS_expr (kok_method _ (kokM_list PySem.F.slot_list_append rfl (kok_fl2 kappend_ok)) (kOkQ_ok (kq_var 1 rfl rfl rfl)) (kokL_cons (kok_bytes B rfl (b_bytes B bb) rfl (kokL_cons (kOkQ_ok (kq_var 2 rfl rfl rfl)) kokL_nil (fun _ => rfl)) (fun _ _ => rfl)) kokL_nil (fun _ => rfl)) (fun _ _ => rfl) (fun _ => rfl)) (fun _ => rfl)) kokB_nil) kokB_nil) kokB_nil) (fun _ _ => rfl)) (kokB_cons (kokS_ret (kOkQ_ok (kq_var 1 rfl rfl rfl))) kokB_nil)))

theorem c_osc_selections (B : Bs c (hk c.w.params) mg mb) (bb : ∀ x : Str, x ≠ "__name__" → mb x = bootBuiltins x) : Bx (OkC c 1 (.ref 198) f_osc_selections) :=
  kokC_def B os_osc_selections (names := ["octets"]) (fd := fd_osc_selections) (body := b_osc_selections) (def_osc_selections B) (w_osc_selections B bb)

abbrev os_law_deck : List Str := ["cell", "cells", "mixed"]
noncomputable abbrev x_law_deck : Ctx := ⟨s_law_deck, (["script"] : List Str) ++ os_law_deck⟩
theorem w_law_deck (B : Bs c (hk c.w.params) mg mb) (bb : ∀ x : Str, x ≠ "__name__" → mb x = bootBuiltins x) : Bx (OkB c 0 x_law_deck false b_law_deck d_law_deck) :=
  (kokB_cons (kokS_swap (names := ["cells", "mixed"]) [2, 3] (by decide) rfl (fun _ => (.cons (stores_bind rfl (.inl rfl)) (.cons (stores_bind rfl (.inl rfl)) .nil))) (kokTu_disp (kokL_cons (kok_listcomp (fs := []) (is := []) (by decide) (kokSrc_L (kok_slice (kOkQ_ok (kq_var 0 rfl rfl rfl)) kpart_none kpart_int kpart_none (by decide) (fun _ _ => ⟨_, rfl⟩))) (kok_bin (kok_call B rfl (b_int B bb) rfl keep_type (kok_fl1 kint_ok) (kokL_cons (kOkQ_ok (kq_var 0 rfl rfl rfl)) kokL_nil (fun _ => rfl)) (fun _ => rfl)) (kok_bin (kOkQ_ok kq_int) (kOkQ_ok kq_int) (kQt2_ok kq_pow)) (kQt2_ok kq_mod)) (fun _ _ => rfl)) (kokL_cons (kOkQ_ok kq_int) kokL_nil (fun _ => rfl)) (fun _ => rfl))) (fun _ => rfl) (fun env h => by cases env; cases h; rfl)) (kokB_cons (kokS_for (kokSrc_L (kOkQ_ok (kq_var 2 rfl rfl rfl))) (kok_bd1 1 rfl (by decide) (.inl rfl)) (kokB_cons (kokS_set 3 rfl (by decide) (.inl rfl) (kok_bin (kok_bin (kok_bin (kOkQ_ok (kq_var 3 rfl rfl rfl)) (kOkQ_ok kq_int) (kQt2_ok kq_mul)) (kOkQ_ok (kq_var 1 rfl rfl rfl)) (kQt2_ok kq_add)) (kOkQ_ok kq_int) (kQt2_ok kq_mod)) (fun _ => rfl)) kokB_nil) (fun _ _ => rfl)) (kokB_cons (kokS_ret (kok_dict (kokP_cons (i := 3) rfl (kok_slice (kOkQ_ok (kq_var 2 rfl rfl rfl)) kpart_none kpart_none kpart_neg (by decide) (fun _ _ => ⟨_, rfl⟩)) (kokP_cons (i := 4) rfl (kOkQ_ok (kq_var 3 rfl rfl rfl)) kokP_nil)) rfl rfl (fun z => nomatch z) (by decide) (by decide))) kokB_nil)))

theorem c_law_deck (B : Bs c (hk c.w.params) mg mb) (bb : ∀ x : Str, x ≠ "__name__" → mb x = bootBuiltins x) : Bx (OkC c 1 (.ref 220) f_law_deck) :=
  kokC_def B os_law_deck (names := ["script"]) (fd := fd_law_deck) (body := b_law_deck) (def_law_deck B) (w_law_deck B bb)

abbrev os_law_draw : List Str := []
noncomputable abbrev x_law_draw : Ctx := ⟨s_law_draw, (["deck", "many"] : List Str) ++ os_law_draw⟩
theorem w_law_draw (B : Bs c (hk c.w.params) mg mb) (bb : ∀ x : Str, x ≠ "__name__" → mb x = bootBuiltins x) : Bx (OkB c 0 x_law_draw false b_law_draw d_law_draw) :=
  (kokB_cons (kokS_if (kokT_nil (kOkQ_ok (kq_sub2 (kq_var 0 rfl rfl rfl) (kq_str 3 rfl) (fun _ _ => ⟨_, rfl⟩))) (fun _ => rfl) rfl) (kokB_cons (kokS_ret (kok_bin (kok_method _ (kokM_list PySem.F.slot_list_pop rfl (kok_fl1 kpop_ok)) (kOkQ_ok (kq_sub2 (kq_var 0 rfl rfl rfl) (kq_str 3 rfl) (fun _ _ => ⟨_, rfl⟩))) kokL_nil (fun _ _ => rfl) (fun _ => rfl)) (kOkQ_ok (kq_var 1 rfl rfl rfl)) (kQt2_ok kq_mod))) kokB_nil) kokB_nil) (kokB_cons (kokS_item (kok_bin (kok_bin (kok_bin (kOkQ_ok (kq_sub2 (kq_var 0 rfl rfl rfl) (kq_str 4 rfl) (fun _ _ => ⟨_, rfl⟩))) (kOkQ_ok kq_int) (kQt2_ok kq_mul)) (kOkQ_ok kq_int) (kQt2_ok kq_add)) (kOkQ_ok kq_int) (kQt2_ok kq_mod)) (kOkQ_ok (kq_var 0 rfl rfl rfl)) (kOkQ_ok (kq_str 4 rfl)) kput_ok (fun _ => rfl)) (kokB_cons (kokS_ret (kok_bin (kok_bin (kOkQ_ok (kq_sub2 (kq_var 0 rfl rfl rfl) (kq_str 4 rfl) (fun _ _ => ⟨_, rfl⟩))) (kOkQ_ok kq_int) (kQt2_ok kq_div)) (kOkQ_ok (kq_var 1 rfl rfl rfl)) (kQt2_ok kq_mod))) kokB_nil)))

theorem c_law_draw (B : Bs c (hk c.w.params) mg mb) (bb : ∀ x : Str, x ≠ "__name__" → mb x = bootBuiltins x) : Bx (OkC c 1 (.ref 227) f_law_draw) :=
  kokC_def B os_law_draw (names := ["deck", "many"]) (fd := fd_law_draw) (body := b_law_draw) (def_law_draw B) (w_law_draw B bb)

abbrev os_law_cube : List Str := ["levels", "place"]
noncomputable abbrev x_law_cube : Ctx := ⟨s_law_cube, (["number"] : List Str) ++ os_law_cube⟩
theorem w_law_cube (B : Bs c (hk c.w.params) mg mb) (bb : ∀ x : Str, x ≠ "__name__" → mb x = bootBuiltins x) : Bx (OkB c 0 x_law_cube false b_law_cube d_law_cube) :=
  (kokB_cons (kokS_if (kokT_cmp (kOkQ_ok (kq_var 0 rfl rfl rfl)) (kOkQ_ok kq_int) (kQt2_ok kq_gt) rfl) (kokB_cons (kokS_ret (kok_bin (kok_bin (kOkQ_ok kq_int) (kok_bin (kOkQ_ok kq_int) (kok_bin (kOkQ_ok (kq_var 0 rfl rfl rfl)) (kOkQ_ok kq_int) (kQt2_ok kq_sub)) (kQt2_ok kq_mul)) (kQt2_ok kq_add)) (kOkQ_ok kq_int) (kQt2_ok kq_mul))) kokB_nil) kokB_nil) (kokB_cons (kokS_swap (names := ["levels", "place"]) [1, 2] (by decide) rfl (fun _ => (.cons (stores_bind rfl (.inl rfl)) (.cons (stores_bind rfl (.inl rfl)) .nil))) (kokTu_disp (kokL_cons (kok_tuple (kokL_cons (kOkQ_ok kq_int) (kokL_cons (kOkQ_ok kq_int) (kokL_cons (kOkQ_ok kq_int) (kokL_cons (kOkQ_ok kq_int) (kokL_cons (kOkQ_ok kq_int) (kokL_cons (kOkQ_ok kq_int) kokL_nil (fun _ => rfl)) (fun _ => rfl)) (fun _ => rfl)) (fun _ => rfl)) (fun _ => rfl)) (fun _ => rfl))) (kokL_cons (kok_bin (kOkQ_ok (kq_var 0 rfl rfl rfl)) (kOkQ_ok kq_int) (kQt2_ok kq_sub)) kokL_nil (fun _ => rfl)) (fun _ => rfl))) (fun _ => rfl) (fun env h => by cases env; cases h; rfl)) (kokB_cons (kokS_ret (kok_bin (kok_bin (kok_bin (kok_sub (kOkQ_ok (kq_var 1 rfl rfl rfl)) (kok_bin (kOkQ_ok (kq_var 2 rfl rfl rfl)) (kOkQ_ok kq_int) (kQt2_ok kq_div)) (fun _ _ => ⟨_, rfl⟩)) (kOkQ_ok kq_int) (kQt2_ok kq_mul)) (kok_bin (kok_sub (kOkQ_ok (kq_var 1 rfl rfl rfl)) (kok_bin (kok_bin (kOkQ_ok (kq_var 2 rfl rfl rfl)) (kOkQ_ok kq_int) (kQt2_ok kq_div)) (kOkQ_ok kq_int) (kQt2_ok kq_mod)) (fun _ _ => ⟨_, rfl⟩)) (kOkQ_ok kq_int) (kQt2_ok kq_mul)) (kQt2_ok kq_add)) (kok_sub (kOkQ_ok (kq_var 1 rfl rfl rfl)) (kok_bin (kOkQ_ok (kq_var 2 rfl rfl rfl)) (kOkQ_ok kq_int) (kQt2_ok kq_mod)) (fun _ _ => ⟨_, rfl⟩)) (kQt2_ok kq_add))) kokB_nil)))

theorem c_law_cube (B : Bs c (hk c.w.params) mg mb) (bb : ∀ x : Str, x ≠ "__name__" → mb x = bootBuiltins x) : Bx (OkC c 1 (.ref 234) f_law_cube) :=
  kokC_def B os_law_cube (names := ["number"]) (fd := fd_law_cube) (body := b_law_cube) (def_law_cube B) (w_law_cube B bb)

abbrev os_law_first : List Str := []
noncomputable abbrev x_law_first : Ctx := ⟨s_law_first, (["world", "key"] : List Str) ++ os_law_first⟩
theorem w_law_first (B : Bs c (hk c.w.params) mg mb) (bb : ∀ x : Str, x ≠ "__name__" → mb x = bootBuiltins x) : Bx (OkB c 1 x_law_first false b_law_first d_law_first) :=
  (kokB_cons (kokS_if (kokT_cmp (kOkQ_ok (kq_sub2 (kq_var 1 rfl rfl rfl) kq_int (fun _ _ => ⟨_, rfl⟩))) (kOkQ_ok (kq_str 0 rfl)) (kQt2_ok kq_eqS) rfl) (kokB_cons (kokS_ret (kok_call B rfl (nm_law_cube B) rfl (kp_law_cube B) (kup (by decide) (c_law_cube B bb)) (kokL_cons (kOkQ_ok (kq_sub2 (kq_var 1 rfl rfl rfl) kq_int (fun _ _ => ⟨_, rfl⟩))) kokL_nil (fun _ => rfl)) (fun _ => rfl))) kokB_nil) kokB_nil) (kokB_cons (kokS_ret (kok_ifexp (kokT_and (kokT_cmp (kOkQ_ok (kq_sub2 (kq_var 1 rfl rfl rfl) kq_int (fun _ _ => ⟨_, rfl⟩))) (kOkQ_ok (kq_str 2 rfl)) (kQt2_ok kq_eqS) rfl) (kokT_cmp (kOkQ_ok (kq_sub2 (kq_var 1 rfl rfl rfl) kq_int (fun _ _ => ⟨_, rfl⟩))) (kok_tuple (kokL_cons (kOkQ_ok kq_int) (kokL_cons (kOkQ_ok kq_int) (kokL_cons (kOkQ_ok kq_int) (kokL_cons (kOkQ_ok kq_int) kokL_nil (fun _ => rfl)) (fun _ => rfl)) (fun _ => rfl)) (fun _ => rfl))) (kQt2_ok kq_inT) rfl)) (kOkQ_ok (kq_sub2 (kq_var 0 rfl rfl rfl) (kq_str 6 rfl) (fun _ _ => ⟨_, rfl⟩))) (kOkQ_ok (kq_sub2 (kq_var 0 rfl rfl rfl) (kq_str 5 rfl) (fun _ _ => ⟨_, rfl⟩))))) kokB_nil))

theorem c_law_first (B : Bs c (hk c.w.params) mg mb) (bb : ∀ x : Str, x ≠ "__name__" → mb x = bootBuiltins x) : Bx (OkC c 2 (.ref 241) f_law_first) :=
  kokC_def B os_law_first (names := ["world", "key"]) (fd := fd_law_first) (body := b_law_first) (def_law_first B) (w_law_first B bb)

abbrev os_law_coloured : List Str := ["key", "rgb"]
noncomputable abbrev x_law_coloured : Ctx := ⟨s_law_coloured, (["deck", "palette", "world", "way"] : List Str) ++ os_law_coloured⟩
theorem w_law_coloured (B : Bs c (hk c.w.params) mg mb) (bb : ∀ x : Str, x ≠ "__name__" → mb x = bootBuiltins x) : Bx (OkB c 4 x_law_coloured false b_law_coloured d_law_coloured) :=
  (kokB_cons (kokS_set 4 rfl (by decide) (.inr rfl) (kok_sub (kOkQ_ok (kg (g_law_keys B rfl))) (kok_call B rfl (nm_law_draw B) rfl (kp_law_draw B) (kup (by decide) (c_law_draw B bb)) (kokL_cons (kOkQ_ok (kq_var 0 rfl rfl rfl)) (kokL_cons (kok_call B rfl (b_len B bb) rfl keep_builtin (kok_fl1 klen_ok) (kokL_cons (kOkQ_ok (kg (g_law_keys B rfl))) kokL_nil (fun _ => rfl)) (fun _ => rfl)) kokL_nil (fun _ => rfl)) (fun _ => rfl)) (fun _ => rfl)) (fun _ _ => ⟨_, rfl⟩)) (fun _ => rfl)) (kokB_cons (kokS_if (kokT_cmp (kOkQ_ok (kq_var 3 rfl rfl rfl)) (kOkQ_ok kq_int) (kQt2_ok kq_lt) rfl) (kokB_cons (kokS_set 5 rfl (by decide) (.inl rfl) (kok_sub (kOkQ_ok (kg (g_law_rgbs B rfl))) (kok_call B rfl (nm_law_draw B) rfl (kp_law_draw B) (kup (by decide) (c_law_draw B bb)) (kokL_cons (kOkQ_ok (kq_var 0 rfl rfl rfl)) (kokL_cons (kok_call B rfl (b_len B bb) rfl keep_builtin (kok_fl1 klen_ok) (kokL_cons (kOkQ_ok (kg (g_law_rgbs B rfl))) kokL_nil (fun _ => rfl)) (fun _ => rfl)) kokL_nil (fun _ => rfl)) (fun _ => rfl)) (fun _ => rfl)) (fun _ _ => ⟨_, rfl⟩)) (fun _ => rfl)) kokB_nil) (kokB_cons (kokS_if (kokT_cmp (kOkQ_ok (kq_var 3 rfl rfl rfl)) (kOkQ_ok kq_int) (kQt2_ok kq_eq) rfl) (kokB_cons (kokS_set 5 rfl (by decide) (.inl rfl) (kok_call B rfl (nm_law_first B) rfl (kp_law_first B) (kup (by decide) (c_law_first B bb)) (kokL_cons (kOkQ_ok (kq_var 2 rfl rfl rfl)) (kokL_cons (kOkQ_ok (kq_var 4 rfl rfl rfl)) kokL_nil (fun _ => rfl)) (fun _ => rfl)) (fun _ => rfl)) (fun _ => rfl)) kokB_nil) (kokB_cons (kokS_set 5 rfl (by decide) (.inl rfl) (kOkQ_ok kq_none) (fun _ => rfl)) kokB_nil)) kokB_nil)) (kokB_cons (kokS_if (kokT_cmp (kOkQ_ok (kq_var 3 rfl rfl rfl)) (kOkQ_ok kq_int) (kQt2_ok kq_eq) rfl) (kokB_cons (kokS_expr (kok_method _ (kokM_inst B (cls_P (P := c.w.params)) rfl rfl (by decide) (kp_P_put_back B) (kup (by decide) (c_P_put_back B bb))) (kOkQ_ok (kq_var 1 rfl rfl rfl)) (kokL_cons (kOkQ_ok (kq_var 4 rfl rfl rfl)) kokL_nil (fun _ => rfl)) (fun _ _ => rfl) (fun _ => rfl)) (fun _ => rfl)) (kokB_cons (kokS_item (kok_dictcomp (fs := ["world", "key"]) (is := [2, 4]) (by decide) (kOkQ_ok (kq_sub2 (kq_var 2 rfl rfl rfl) (kq_str 13 rfl) (fun _ _ => ⟨_, rfl⟩))) (kqT_cmp (kq_var 0 rfl rfl rfl) (kq_var 2 rfl rfl rfl) kq_neT rfl) (kq_var 0 rfl rfl rfl) (kq_sub2 (kq_sub2 (kq_var 1 rfl rfl rfl) (kq_str 13 rfl) (fun _ _ => ⟨_, rfl⟩)) (kq_var 0 rfl rfl rfl) (fun _ _ => ⟨_, rfl⟩)) (fun _ _ => rfl)) (kOkQ_ok (kq_var 2 rfl rfl rfl)) (kOkQ_ok (kq_str 13 rfl)) kput_ok (fun _ => rfl)) kokB_nil)) (kokB_cons (kokS_if (kokT_cmp (kOkQ_ok (kq_var 3 rfl rfl rfl)) (kOkQ_ok kq_int) (kQt2_ok kq_eq) rfl) (kokB_cons (kokS_expr (kok_method _ (kokM_inst B (cls_P (P := c.w.params)) rfl rfl (by decide) (kp_P_put_back_all B) (kup (by decide) (c_P_put_back_all B bb))) (kOkQ_ok (kq_var 1 rfl rfl rfl)) (kokL_cons (kOkQ_ok (kq_sub2 (kq_var 4 rfl rfl rfl) kq_int (fun _ _ => ⟨_, rfl⟩))) kokL_nil (fun _ => rfl)) (fun _ _ => rfl) (fun _ => rfl)) (fun _ => rfl)) (kokB_cons (kokS_item (kok_dictcomp (fs := ["world", "key"]) (is := [2, 4]) (by decide) (kOkQ_ok (kq_sub2 (kq_var 2 rfl rfl rfl) (kq_str 13 rfl) (fun _ _ => ⟨_, rfl⟩))) (kqT_cmp (kq_sub2 (kq_var 0 rfl rfl rfl) kq_int (fun _ _ => ⟨_, rfl⟩)) (kq_sub2 (kq_var 2 rfl rfl rfl) kq_int (fun _ _ => ⟨_, rfl⟩)) kq_neS rfl) (kq_var 0 rfl rfl rfl) (kq_sub2 (kq_sub2 (kq_var 1 rfl rfl rfl) (kq_str 13 rfl) (fun _ _ => ⟨_, rfl⟩)) (kq_var 0 rfl rfl rfl) (fun _ _ => ⟨_, rfl⟩)) (fun _ _ => rfl)) (kOkQ_ok (kq_var 2 rfl rfl rfl)) (kOkQ_ok (kq_str 13 rfl)) kput_ok (fun _ => rfl)) kokB_nil)) (kokB_cons (kokS_expr (kok_method _ (kokM_inst B (cls_P (P := c.w.params)) rfl rfl (by decide) (kp_P_put B) (kup (by decide) (c_P_put B bb))) (kOkQ_ok (kq_var 1 rfl rfl rfl)) (kokL_cons (kOkQ_ok (kq_var 4 rfl rfl rfl)) (kokL_cons (kOkQ_ok (kq_var 5 rfl rfl rfl)) kokL_nil (fun _ => rfl)) (fun _ => rfl)) (fun _ _ => rfl) (fun _ => rfl)) (fun _ => rfl)) (kokB_cons (kokS_item (kok_dictcomp (fs := ["world", "key"]) (is := [2, 4]) (by decide) (kOkQ_ok (kq_sub2 (kq_var 2 rfl rfl rfl) (kq_str 13 rfl) (fun _ _ => ⟨_, rfl⟩))) (kqT_cmp (kq_var 0 rfl rfl rfl) (kq_var 2 rfl rfl rfl) kq_neT rfl) (kq_var 0 rfl rfl rfl) (kq_sub2 (kq_sub2 (kq_var 1 rfl rfl rfl) (kq_str 13 rfl) (fun _ _ => ⟨_, rfl⟩)) (kq_var 0 rfl rfl rfl) (fun _ _ => ⟨_, rfl⟩)) (fun _ _ => rfl)) (kOkQ_ok (kq_var 2 rfl rfl rfl)) (kOkQ_ok (kq_str 13 rfl)) kput_ok (fun _ => rfl)) (kokB_cons (kokS_if (kokT_cmp (kOkQ_ok (kq_var 5 rfl rfl rfl)) (kok_call B rfl (nm_law_first B) rfl (kp_law_first B) (kup (by decide) (c_law_first B bb)) (kokL_cons (kOkQ_ok (kq_var 2 rfl rfl rfl)) (kokL_cons (kOkQ_ok (kq_var 4 rfl rfl rfl)) kokL_nil (fun _ => rfl)) (fun _ => rfl)) (fun _ => rfl)) (kQt2_ok kq_ne) rfl) (kokB_cons (kokS_item (kOkQ_ok (kq_var 5 rfl rfl rfl)) (kOkQ_ok (kq_sub2 (kq_var 2 rfl rfl rfl) (kq_str 13 rfl) (fun _ _ => ⟨_, rfl⟩))) (kOkQ_ok (kq_var 4 rfl rfl rfl)) kput_ok (fun _ => rfl)) kokB_nil) kokB_nil) kokB_nil)))) kokB_nil)) kokB_nil)))

theorem c_law_coloured (B : Bs c (hk c.w.params) mg mb) (bb : ∀ x : Str, x ≠ "__name__" → mb x = bootBuiltins x) : Bx (OkC c 5 (.ref 246) f_law_coloured) :=
  kokC_def B os_law_coloured (names := ["deck", "palette", "world", "way"]) (fd := fd_law_coloured) (body := b_law_coloured) (def_law_coloured B) (w_law_coloured B bb)

abbrev os_law_palette_right : List Str := ["key", "told", "due"]
noncomputable abbrev x_law_palette_right : Ctx := ⟨s_law_palette_right, (["palette", "world"] : List Str) ++ os_law_palette_right⟩
theorem w_law_palette_right (B : Bs c (hk c.w.params) mg mb) (bb : ∀ x : Str, x ≠ "__name__" → mb x = bootBuiltins x) : Bx (OkB c 5 x_law_palette_right false b_law_palette_right d_law_palette_right) :=
  (kokB_cons (kokS_if (kokT_cmp (kok_attr B (cls_P (P := c.w.params)) 7 rfl rfl (kOkQ_ok (kq_var 0 rfl rfl rfl)) (fun _ => by with_unfolding_all rfl)) (kOkQ_ok (kq_sub2 (kq_var 1 rfl rfl rfl) (kq_str 13 rfl) (fun _ _ => ⟨_, rfl⟩))) (kQt2_ok kq_neD) rfl) (kokB_cons (kokS_ret (kOkQ_ok kq_bool)) kokB_nil) kokB_nil) (kokB_cons (kokS_for (kokSrc_T (kOkQ_ok (kg (g_law_keys B rfl)))) (kok_bd1 2 rfl (by decide) (.inl rfl)) (kokB_cons (kokS_set 4 rfl (by decide) (.inl rfl) (kok_ifexp (kokT_cmp (kOkQ_ok (kq_var 2 rfl rfl rfl)) (kOkQ_ok (kq_sub2 (kq_var 1 rfl rfl rfl) (kq_str 13 rfl) (fun _ _ => ⟨_, rfl⟩))) (kQt2_ok kq_inD) rfl) (kOkQ_ok (kq_sub2 (kq_sub2 (kq_var 1 rfl rfl rfl) (kq_str 13 rfl) (fun _ _ => ⟨_, rfl⟩)) (kq_var 2 rfl rfl rfl) (fun _ _ => ⟨_, rfl⟩))) (kok_call B rfl (nm_law_first B) rfl (kp_law_first B) (kup (by decide) (c_law_first B bb)) (kokL_cons (kOkQ_ok (kq_var 1 rfl rfl rfl)) (kokL_cons (kOkQ_ok (kq_var 2 rfl rfl rfl)) kokL_nil (fun _ => rfl)) (fun _ => rfl)) (fun _ => rfl))) (fun _ => rfl)) (kokB_cons (kokS_if (kokT_or (kokT_cmp (kok_method _ (kokM_inst B (cls_P (P := c.w.params)) rfl rfl (by decide) (kp_P_rgb B) (kup (by decide) (c_P_rgb B bb))) (kOkQ_ok (kq_var 0 rfl rfl rfl)) (kokL_cons (kOkQ_ok (kq_var 2 rfl rfl rfl)) kokL_nil (fun _ => rfl)) (fun _ _ => rfl) (fun _ => rfl)) (kOkQ_ok (kq_var 4 rfl rfl rfl)) (kQt2_ok kq_ne) rfl) (kokT_cmp (kok_method _ (kokM_inst B (cls_P (P := c.w.params)) rfl rfl (by decide) (kp_P_first B) (kup (by decide) (c_P_first B bb))) (kOkQ_ok (kq_var 0 rfl rfl rfl)) (kokL_cons (kOkQ_ok (kq_var 2 rfl rfl rfl)) kokL_nil (fun _ => rfl)) (fun _ _ => rfl) (fun _ => rfl)) (kok_call B rfl (nm_law_first B) rfl (kp_law_first B) (kup (by decide) (c_law_first B bb)) (kokL_cons (kOkQ_ok (kq_var 1 rfl rfl rfl)) (kokL_cons (kOkQ_ok (kq_var 2 rfl rfl rfl)) kokL_nil (fun _ => rfl)) (fun _ => rfl)) (fun _ => rfl)) (kQt2_ok kq_ne) rfl)) (kokB_cons (kokS_ret (kOkQ_ok kq_bool)) kokB_nil) kokB_nil) kokB_nil)) (fun _ _ => rfl)) (kokB_cons (kokS_set 3 rfl (by decide) (.inl rfl) (kok_list (kokL_cons (kok_method _ (kokM_inst B (cls_P (P := c.w.params)) rfl rfl (by decide) (kp_P_colour_rgb B) (kup (by decide) (c_P_colour_rgb B bb))) (kOkQ_ok (kq_var 0 rfl rfl rfl)) (kokL_cons (kOkQ_ok kq_neg) (kokL_cons (kOkQ_ok kq_bool) kokL_nil (fun _ => rfl)) (fun _ => rfl)) (fun _ _ => rfl) (fun _ => rfl)) (kokL_cons (kok_method _ (kokM_inst B (cls_P (P := c.w.params)) rfl rfl (by decide) (kp_P_colour_rgb B) (kup (by decide) (c_P_colour_rgb B bb))) (kOkQ_ok (kq_var 0 rfl rfl rfl)) (kokL_cons (kOkQ_ok kq_neg) (kokL_cons (kOkQ_ok kq_bool) kokL_nil (fun _ => rfl)) (fun _ => rfl)) (fun _ _ => rfl) (fun _ => rfl)) (kokL_cons (kok_method _ (kokM_inst B (cls_P (P := c.w.params)) rfl rfl (by decide) (kp_P_colour_rgb B) (kup (by decide) (c_P_colour_rgb B bb))) (kOkQ_ok (kq_var 0 rfl rfl rfl)) (kokL_cons (kOkQ_ok kq_int) (kokL_cons (kOkQ_ok kq_bool) kokL_nil (fun _ => rfl)) (fun _ => rfl)) (fun _ _ => rfl) (fun _ => rfl)) kokL_nil (fun _ => rfl)) (fun _ => rfl)) (fun _ => rfl))) (fun _ => rfl)) (kokB_cons (kokS_expr (kok_method _ (kokM_list PySem.F.slot_list_append rfl (kok_fl2 kappend_ok)) (kOkQ_ok (kq_var 3 rfl rfl rfl)) (kokL_cons (kok_method _ (kokM_inst B (cls_P (P := c.w.params)) rfl rfl (by decide) (kp_P_colour_rgb B) (kup (by decide) (c_P_colour_rgb B bb))) (kOkQ_ok (kq_var 0 rfl rfl rfl)) (kokL_cons (kok_bin (kOkQ_ok kq_int) (kOkQ_ok kq_int) (kQt2_ok kq_add)) (kokL_cons (kOkQ_ok kq_bool) kokL_nil (fun _ => rfl)) (fun _ => rfl)) (fun _ _ => rfl) (fun _ => rfl)) kokL_nil (fun _ => rfl)) (fun _ _ => rfl) (fun _ => rfl)) (fun _ => rfl)) (kokB_cons (kokS_set 4 rfl (by decide) (.inl rfl) (kok_list (kokL_cons (kok_method _ (kokM_inst B (cls_P (P := c.w.params)) rfl rfl (by decide) (kp_P_rgb B) (kup (by decide) (c_P_rgb B bb))) (kOkQ_ok (kq_var 0 rfl rfl rfl)) (kokL_cons (kok_tuple (kokL_cons (kOkQ_ok (kq_str 2 rfl)) (kokL_cons (kOkQ_ok kq_int) kokL_nil (fun _ => rfl)) (fun _ => rfl))) kokL_nil (fun _ => rfl)) (fun _ _ => rfl) (fun _ => rfl)) (kokL_cons (kok_method _ (kokM_inst B (cls_P (P := c.w.params)) rfl rfl (by decide) (kp_P_rgb B) (kup (by decide) (c_P_rgb B bb))) (kOkQ_ok (kq_var 0 rfl rfl rfl)) (kokL_cons (kok_tuple (kokL_cons (kOkQ_ok (kq_str 2 rfl)) (kokL_cons (kOkQ_ok kq_int) kokL_nil (fun _ => rfl)) (fun _ => rfl))) kokL_nil (fun _ => rfl)) (fun _ _ => rfl) (fun _ => rfl)) (kokL_cons (kok_method _ (kokM_inst B (cls_P (P := c.w.params)) rfl rfl (by decide) (kp_P_rgb B) (kup (by decide) (c_P_rgb B bb))) (kOkQ_ok (kq_var 0 rfl rfl rfl)) (kokL_cons (kok_tuple (kokL_cons (kOkQ_ok (kq_str 0 rfl)) (kokL_cons (kOkQ_ok kq_int) kokL_nil (fun _ => rfl)) (fun _ => rfl))) kokL_nil (fun _ => rfl)) (fun _ _ => rfl) (fun _ => rfl)) (kokL_cons (kOkQ_ok kq_int) kokL_nil (fun _ => rfl)) (fun _ => rfl)) (fun _ => rfl)) (fun _ => rfl))) (fun _ => rfl)) (kokB_cons (kokS_ret (kok_cmp (kOkQ_ok (kq_var 3 rfl rfl rfl)) (kOkQ_ok (kq_var 4 rfl rfl rfl)) (kQt2_ok kq_eqL) rfl)) kokB_nil))))))

theorem c_law_palette_right (B : Bs c (hk c.w.params) mg mb) (bb : ∀ x : Str, x ≠ "__name__" → mb x = bootBuiltins x) : Bx (OkC c 6 (.ref 253) f_law_palette_right) :=
  kokC_def B os_law_palette_right (names := ["palette", "world"]) (fd := fd_law_palette_right) (body := b_law_palette_right) (def_law_palette_right B) (w_law_palette_right B bb)

abbrev os_law_link_right : List Str := ["pair", "due", "number", "one"]
noncomputable abbrev x_law_link_right : Ctx := ⟨s_law_link_right, (["deck", "links", "world"] : List Str) ++ os_law_link_right⟩
theorem w_law_link_right (B : Bs c (hk c.w.params) mg mb) (bb : ∀ x : Str, x ≠ "__name__" → mb x = bootBuiltins x) : Bx (OkB c 1 x_law_link_right false b_law_link_right d_law_link_right) :=
  (kokB_cons (kokS_set 3 rfl (by decide) (.inl rfl) (kok_tuple (kokL_cons (kok_sub (kOkQ_ok (kg (g_law_ids B rfl))) (kok_call B rfl (nm_law_draw B) rfl (kp_law_draw B) (kup (by decide) (c_law_draw B bb)) (kokL_cons (kOkQ_ok (kq_var 0 rfl rfl rfl)) (kokL_cons (kOkQ_ok kq_int) kokL_nil (fun _ => rfl)) (fun _ => rfl)) (fun _ => rfl)) (fun _ _ => ⟨_, rfl⟩)) (kokL_cons (kok_sub (kOkQ_ok (kg (g_law_addresses B rfl))) (kok_call B rfl (nm_law_draw B) rfl (kp_law_draw B) (kup (by decide) (c_law_draw B bb)) (kokL_cons (kOkQ_ok (kq_var 0 rfl rfl rfl)) (kokL_cons (kOkQ_ok kq_int) kokL_nil (fun _ => rfl)) (fun _ => rfl)) (fun _ => rfl)) (fun _ _ => ⟨_, rfl⟩)) kokL_nil (fun _ => rfl)) (fun _ => rfl))) (fun _ => rfl)) (kokB_cons (kokS_if (kokT_and (kokT_cmp (kOkQ_ok (kq_var 3 rfl rfl rfl)) (kOkQ_ok (kq_sub2 (kq_var 2 rfl rfl rfl) (kq_str 14 rfl) (fun _ _ => ⟨_, rfl⟩))) (kQt2_ok kq_notIn) rfl) (kokT_cmp (kok_call B rfl (b_len B bb) rfl keep_builtin (kok_fl1 klen_ok) (kokL_cons (kOkQ_ok (kq_sub2 (kq_var 2 rfl rfl rfl) (kq_str 14 rfl) (fun _ _ => ⟨_, rfl⟩))) kokL_nil (fun _ => rfl)) (fun _ => rfl)) (kOkQ_ok kq_int) (kQt2_ok kq_lt) rfl)) (kokB_cons (kokS_expr (kok_method _ (kokM_list PySem.F.slot_list_append rfl (kok_fl2 kappend_ok)) (kOkQ_ok (kq_sub2 (kq_var 2 rfl rfl rfl) (kq_str 14 rfl) (fun _ _ => ⟨_, rfl⟩))) (kokL_cons (kOkQ_ok (kq_var 3 rfl rfl rfl)) kokL_nil (fun _ => rfl)) (fun _ _ => rfl) (fun _ => rfl)) (fun _ => rfl)) kokB_nil) kokB_nil) (kokB_cons (kokS_set 4 rfl (by decide) (.inl rfl) (kok_ifexp (kokT_cmp (kOkQ_ok (kq_var 3 rfl rfl rfl)) (kOkQ_ok (kq_sub2 (kq_var 2 rfl rfl rfl) (kq_str 14 rfl) (fun _ _ => ⟨_, rfl⟩))) (kQt2_ok kq_in) rfl) (kok_bin (kok_method _ (kokM_list PySem.F.slot_list_index rfl (kok_fl2 kindex_ok)) (kOkQ_ok (kq_sub2 (kq_var 2 rfl rfl rfl) (kq_str 14 rfl) (fun _ _ => ⟨_, rfl⟩))) (kokL_cons (kOkQ_ok (kq_var 3 rfl rfl rfl)) kokL_nil (fun _ => rfl)) (fun _ _ => rfl) (fun _ => rfl)) (kOkQ_ok kq_int) (kQt2_ok kq_add)) (kOkQ_ok kq_int)) (fun _ => rfl)) (kokB_cons (kokS_if (kokT_cmp (kok_method _ (kokM_inst B (cls_L (P := c.w.params)) rfl rfl (by decide) (kp_L_number_of_link B) (kup (by decide) (c_L_number_of_link B bb))) (kOkQ_ok (kq_var 1 rfl rfl rfl)) (kokL_cons (kOkQ_ok (kq_sub2 (kq_var 3 rfl rfl rfl) kq_int (fun _ _ => ⟨_, rfl⟩))) (kokL_cons (kOkQ_ok (kq_sub2 (kq_var 3 rfl rfl rfl) kq_int (fun _ _ => ⟨_, rfl⟩))) (kokL_cons (kOkQ_ok kq_int) kokL_nil (fun _ => rfl)) (fun _ => rfl)) (fun _ => rfl)) (fun _ _ => rfl) (fun _ => rfl)) (kOkQ_ok (kq_var 4 rfl rfl rfl)) (kQt2_ok kq_ne) rfl) (kokB_cons (kokS_ret (kOkQ_ok kq_bool)) kokB_nil) kokB_nil) (kokB_cons (kokS_for (kokSrc_E B rfl (b_enumerate B bb) rfl (kok_bin (kok_bin (kok_list (kokL_cons (kok_tuple (kokL_cons (kOkQ_ok kq_bytes) (kokL_cons (kOkQ_ok kq_bytes) kokL_nil (fun _ => rfl)) (fun _ => rfl))) kokL_nil (fun _ => rfl))) (kOkQ_ok (kq_sub2 (kq_var 2 rfl rfl rfl) (kq_str 14 rfl) (fun _ _ => ⟨_, rfl⟩))) kadd_list_ok) (kok_list (kokL_cons (kok_tuple (kokL_cons (kOkQ_ok kq_bytes) (kokL_cons (kOkQ_ok kq_bytes) kokL_nil (fun _ => rfl)) (fun _ => rfl))) kokL_nil (fun _ => rfl))) kadd_list_ok) (fun _ _ => rfl)) (kok_bd2 5 6 rfl rfl (by decide) (.inl rfl) (.inl rfl) (fun _ => rfl) (fun _ => rfl)) (kokB_cons (kokS_if (kokT_cmp (kok_tuple (kokL_cons (kok_method _ (kokM_inst B (cls_L (P := c.w.params)) rfl rfl (by decide) (kp_L_word B) (kup (by decide) (c_L_word B bb))) (kOkQ_ok (kq_var 1 rfl rfl rfl)) (kokL_cons (kOkQ_ok (kq_var 5 rfl rfl rfl)) kokL_nil (fun _ => rfl)) (fun _ _ => rfl) (fun _ => rfl)) (kokL_cons (kok_method _ (kokM_inst B (cls_L (P := c.w.params)) rfl rfl (by decide) (kp_L_address B) (kup (by decide) (c_L_address B bb))) (kOkQ_ok (kq_var 1 rfl rfl rfl)) (kokL_cons (kOkQ_ok (kq_var 5 rfl rfl rfl)) kokL_nil (fun _ => rfl)) (fun _ _ => rfl) (fun _ => rfl)) kokL_nil (fun _ => rfl)) (fun _ => rfl))) (kOkQ_ok (kq_var 6 rfl rfl rfl)) (kQt2_ok kq_neT) rfl) (kokB_cons (kokS_ret (kOkQ_ok kq_bool)) kokB_nil) kokB_nil) kokB_nil) (fun _ _ => rfl)) (kokB_cons (kokS_ret (kOkQ_ok kq_bool)) kokB_nil))))))

theorem c_law_link_right (B : Bs c (hk c.w.params) mg mb) (bb : ∀ x : Str, x ≠ "__name__" → mb x = bootBuiltins x) : Bx (OkC c 2 (.ref 260) f_law_link_right) :=
  kokC_def B os_law_link_right (names := ["deck", "links", "world"]) (fd := fd_law_link_right) (body := b_law_link_right) (def_law_link_right B) (w_law_link_right B bb)

abbrev os_law_titled : List Str := ["which", "octets", "pair", "elder"]
noncomputable abbrev x_law_titled : Ctx := ⟨s_law_titled, (["deck", "titles", "world", "way"] : List Str) ++ os_law_titled⟩
theorem w_law_titled (B : Bs c (hk c.w.params) mg mb) (bb : ∀ x : Str, x ≠ "__name__" → mb x = bootBuiltins x) : Bx (OkB c 1 x_law_titled false b_law_titled d_law_titled) :=
  (kokB_cons (kokS_set 4 rfl (by decide) (.inl rfl) (kok_call B rfl (nm_law_draw B) rfl (kp_law_draw B) (kup (by decide) (c_law_draw B bb)) (kokL_cons (kOkQ_ok (kq_var 0 rfl rfl rfl)) (kokL_cons (kOkQ_ok kq_int) kokL_nil (fun _ => rfl)) (fun _ => rfl)) (fun _ => rfl)) (fun _ => rfl)) (kokB_cons (kokS_if (kokT_cmp (kOkQ_ok (kq_var 3 rfl rfl rfl)) (kOkQ_ok kq_int) (kQt2_ok kq_eq) rfl) (kokB_cons (kokS_set 5 rfl (by decide) (.inl rfl) (kok_sub (kok_tuple (kokL_cons (kOkQ_ok kq_bytes) (kokL_cons (kOkQ_ok kq_bytes) (kokL_cons (kOkQ_ok kq_bytes) kokL_nil (fun _ => rfl)) (fun _ => rfl)) (fun _ => rfl))) (kok_call B rfl (nm_law_draw B) rfl (kp_law_draw B) (kup (by decide) (c_law_draw B bb)) (kokL_cons (kOkQ_ok (kq_var 0 rfl rfl rfl)) (kokL_cons (kOkQ_ok kq_int) kokL_nil (fun _ => rfl)) (fun _ => rfl)) (fun _ => rfl)) (fun _ _ => ⟨_, rfl⟩)) (fun _ => rfl)) (kokB_cons (kokS_expr (kok_method _ (kokM_inst B (cls_T (P := c.w.params)) rfl rfl (by decide) (kp_T_put B) (kup (by decide) (c_T_put B bb))) (kOkQ_ok (kq_var 1 rfl rfl rfl)) (kokL_cons (kOkQ_ok (kq_var 4 rfl rfl rfl)) (kokL_cons (kOkQ_ok (kq_var 5 rfl rfl rfl)) kokL_nil (fun _ => rfl)) (fun _ => rfl)) (fun _ _ => rfl) (fun _ => rfl)) (fun _ => rfl)) (kokB_cons (kokS_set 6 rfl (by decide) (.inl rfl) (kok_tuple (kokL_cons (kOkQ_ok (kq_var 5 rfl rfl rfl)) (kokL_cons (kOkQ_ok (kq_var 5 rfl rfl rfl)) kokL_nil (fun _ => rfl)) (fun _ => rfl))) (fun _ => rfl)) kokB_nil))) (kokB_cons (kokS_if (kokT_cmp (kOkQ_ok (kq_var 3 rfl rfl rfl)) (kOkQ_ok kq_int) (kQt2_ok kq_eq) rfl) (kokB_cons (kokS_expr (kok_method _ (kokM_inst B (cls_T (P := c.w.params)) rfl rfl (by decide) (kp_T_push B) (kup (by decide) (c_T_push B bb))) (kOkQ_ok (kq_var 1 rfl rfl rfl)) (kokL_cons (kOkQ_ok kq_int) kokL_nil (fun _ => rfl)) (fun _ _ => rfl) (fun _ => rfl)) (fun _ => rfl)) (kokB_cons (kokS_item (kok_slice (kok_bin (kOkQ_ok (kq_sub2 (kq_var 2 rfl rfl rfl) (kq_str 16 rfl) (fun _ _ => ⟨_, rfl⟩))) (kok_list (kokL_cons (kOkQ_ok (kq_sub2 (kq_var 2 rfl rfl rfl) (kq_str 15 rfl) (fun _ _ => ⟨_, rfl⟩))) kokL_nil (fun _ => rfl))) kadd_list_ok) kpart_neg kpart_none kpart_none (by decide) (fun _ _ => ⟨_, rfl⟩)) (kOkQ_ok (kq_var 2 rfl rfl rfl)) (kOkQ_ok (kq_str 16 rfl)) kput_ok (fun _ => rfl)) (kokB_cons (kokS_set 6 rfl (by decide) (.inl rfl) (kOkQ_ok (kq_sub2 (kq_var 2 rfl rfl rfl) (kq_str 15 rfl) (fun _ _ => ⟨_, rfl⟩))) (fun _ => rfl)) kokB_nil))) (kokB_cons (kokS_expr (kok_method _ (kokM_inst B (cls_T (P := c.w.params)) rfl rfl (by decide) (kp_T_pop B) (kup (by decide) (c_T_pop B bb))) (kOkQ_ok (kq_var 1 rfl rfl rfl)) (kokL_cons (kOkQ_ok (kq_var 4 rfl rfl rfl)) kokL_nil (fun _ => rfl)) (fun _ _ => rfl) (fun _ => rfl)) (fun _ => rfl)) (kokB_cons (kokS_set 6 rfl (by decide) (.inl rfl) (kok_ifexp (kokT_nil (kOkQ_ok (kq_sub2 (kq_var 2 rfl rfl rfl) (kq_str 16 rfl) (fun _ _ => ⟨_, rfl⟩))) (fun _ => rfl) rfl) (kOkQ_ok (kq_sub2 (kq_sub2 (kq_var 2 rfl rfl rfl) (kq_str 16 rfl) (fun _ _ => ⟨_, rfl⟩)) kq_neg (fun _ _ => ⟨_, rfl⟩))) (kOkQ_ok (kq_sub2 (kq_var 2 rfl rfl rfl) (kq_str 15 rfl) (fun _ _ => ⟨_, rfl⟩)))) (fun _ => rfl)) (kokB_cons (kokS_item (kok_slice (kOkQ_ok (kq_sub2 (kq_var 2 rfl rfl rfl) (kq_str 16 rfl) (fun _ _ => ⟨_, rfl⟩))) kpart_none kpart_neg kpart_none (by decide) (fun _ _ => ⟨_, rfl⟩)) (kOkQ_ok (kq_var 2 rfl rfl rfl)) (kOkQ_ok (kq_str 16 rfl)) kput_ok (fun _ => rfl)) kokB_nil)))) kokB_nil)) (kokB_cons (kokS_if (kokT_cmp (kOkQ_ok (kq_var 3 rfl rfl rfl)) (kOkQ_ok kq_int) (kQt2_ok kq_ne) rfl) (kokB_cons (kokS_set 7 rfl (by decide) (.inl rfl) (kOkQ_ok (kq_sub2 (kq_var 2 rfl rfl rfl) (kq_str 15 rfl) (fun _ _ => ⟨_, rfl⟩))) (fun _ => rfl)) (kokB_cons (kokS_set 6 rfl (by decide) (.inl rfl) (kok_tuple (kokL_cons (kok_ifexp (kokT_cmp (kOkQ_ok (kq_var 4 rfl rfl rfl)) (kOkQ_ok kq_int) (kQt2_ok kq_lt) rfl) (kOkQ_ok (kq_sub2 (kq_var 6 rfl rfl rfl) kq_int (fun _ _ => ⟨_, rfl⟩))) (kOkQ_ok (kq_sub2 (kq_var 7 rfl rfl rfl) kq_int (fun _ _ => ⟨_, rfl⟩)))) (kokL_cons (kok_ifexp (kokT_cmp (kOkQ_ok (kq_var 4 rfl rfl rfl)) (kOkQ_ok kq_int) (kQt2_ok kq_ne) rfl) (kOkQ_ok (kq_sub2 (kq_var 6 rfl rfl rfl) kq_int (fun _ _ => ⟨_, rfl⟩))) (kOkQ_ok (kq_sub2 (kq_var 7 rfl rfl rfl) kq_int (fun _ _ => ⟨_, rfl⟩)))) kokL_nil (fun _ => rfl)) (fun _ => rfl))) (fun _ => rfl)) kokB_nil)) kokB_nil) (kokB_cons (kokS_item (kOkQ_ok (kq_var 6 rfl rfl rfl)) (kOkQ_ok (kq_var 2 rfl rfl rfl)) (kOkQ_ok (kq_str 15 rfl)) kput_ok (fun _ => rfl)) kokB_nil))))

theorem c_law_titled (B : Bs c (hk c.w.params) mg mb) (bb : ∀ x : Str, x ≠ "__name__" → mb x = bootBuiltins x) : Bx (OkC c 2 (.ref 267) f_law_titled) :=
  kokC_def B os_law_titled (names := ["deck", "titles", "world", "way"]) (fd := fd_law_titled) (body := b_law_titled) (def_law_titled B) (w_law_titled B bb)

abbrev os_law_keys_right : List Str := ["number", "due", "told", "signs", "sign"]
noncomputable abbrev x_law_keys_right : Ctx := ⟨s_law_keys_right, (["deck"] : List Str) ++ os_law_keys_right⟩
theorem w_law_keys_right (B : Bs c (hk c.w.params) mg mb) (bb : ∀ x : Str, x ≠ "__name__" → mb x = bootBuiltins x) : Bx (OkB c 1 x_law_keys_right false b_law_keys_right d_law_keys_right) :=
  (kokB_cons (kokS_set 1 rfl (by decide) (.inl rfl) (kok_sub (kok_tuple (kokL_cons (kOkQ_ok kq_int) (kokL_cons (kOkQ_ok kq_int) (kokL_cons (kOkQ_ok kq_int) (kokL_cons (kOkQ_ok kq_int) (kokL_cons (kOkQ_ok kq_int) (kokL_cons (kOkQ_ok kq_int) (kokL_cons (kOkQ_ok kq_int) (kokL_cons (kOkQ_ok kq_int) (kokL_cons (kOkQ_ok kq_int) kokL_nil (fun _ => rfl)) (fun _ => rfl)) (fun _ => rfl)) (fun _ => rfl)) (fun _ => rfl)) (fun _ => rfl)) (fun _ => rfl)) (fun _ => rfl)) (fun _ => rfl))) (kok_call B rfl (nm_law_draw B) rfl (kp_law_draw B) (kup (by decide) (c_law_draw B bb)) (kokL_cons (kOkQ_ok (kq_var 0 rfl rfl rfl)) (kokL_cons (kOkQ_ok kq_int) kokL_nil (fun _ => rfl)) (fun _ => rfl)) (fun _ => rfl)) (fun _ _ => ⟨_, rfl⟩)) (fun _ => rfl)) (kokB_cons (kokS_set 2 rfl (by decide) (.inl rfl) (kok_ifexp (kokT_cmp (kOkQ_ok (kq_var 1 rfl rfl rfl)) (kOkQ_ok kq_int) (kQt2_ok kq_lt) rfl) (kok_tuple (kokL_cons (kOkQ_ok (kq_str 0 rfl)) (kokL_cons (kOkQ_ok (kq_var 1 rfl rfl rfl)) kokL_nil (fun _ => rfl)) (fun _ => rfl))) (kok_ifexp (kokT_cmp (kOkQ_ok (kq_var 1 rfl rfl rfl)) (kOkQ_ok kq_int) (kQt2_ok kq_lt) rfl) (kok_tuple (kokL_cons (kOkQ_ok (kq_str 1 rfl)) (kokL_cons (kok_bin (kOkQ_ok (kq_var 1 rfl rfl rfl)) (kOkQ_ok kq_int) (kQt2_ok kq_sub)) kokL_nil (fun _ => rfl)) (fun _ => rfl))) (kOkQ_ok kq_none))) (fun _ => rfl)) (kokB_cons (kokS_set 3 rfl (by decide) (.inl rfl) (kok_list (kokL_cons (kok_call B rfl (nm_osc_palette_key B) rfl (kp_osc_palette_key B) (kup (by decide) (c_osc_palette_key B bb)) (kokL_cons (kOkQ_ok (kq_var 1 rfl rfl rfl)) (kokL_cons (kOkQ_ok kq_bool) kokL_nil (fun _ => rfl)) (fun _ => rfl)) (fun _ => rfl)) (kokL_cons (kok_call B rfl (nm_osc_palette_key B) rfl (kp_osc_palette_key B) (kup (by decide) (c_osc_palette_key B bb)) (kokL_cons (kOkQ_ok kq_none) (kokL_cons (kOkQ_ok kq_bool) kokL_nil (fun _ => rfl)) (fun _ => rfl)) (fun _ => rfl)) (kokL_cons (kok_call B rfl (nm_osc_palette_key B) rfl (kp_osc_palette_key B) (kup (by decide) (c_osc_palette_key B bb)) (kokL_cons (kOkQ_ok kq_none) (kokL_cons (kOkQ_ok kq_bool) kokL_nil (fun _ => rfl)) (fun _ => rfl)) (fun _ => rfl)) kokL_nil (fun _ => rfl)) (fun _ => rfl)) (fun _ => rfl))) (fun _ => rfl)) (kokB_cons (kokS_if (kokT_reprNe B rfl (b_repr B bb) rfl (kOkQ_ok (kq_var 3 rfl rfl rfl)) (kok_list (kokL_cons (kOkQ_ok (kq_var 2 rfl rfl rfl)) (kokL_cons (kOkQ_ok kq_none) (kokL_cons (kOkQ_ok kq_none) kokL_nil (fun _ => rfl)) (fun _ => rfl)) (fun _ => rfl))) (fun _ _ => rfl) (fun _ _ => rfl) rfl) (kokB_cons (kokS_ret (kOkQ_ok kq_bool)) kokB_nil) kokB_nil) (kokB_cons (kokS_if (kokT_reprNe B rfl (b_repr B bb) rfl (kok_call B rfl (nm_osc_palette_key B) rfl (kp_osc_palette_key B) (kup (by decide) (c_osc_palette_key B bb)) (kokL_cons (kOkQ_ok (kq_var 1 rfl rfl rfl)) (kokL_cons (kOkQ_ok kq_bool) kokL_nil (fun _ => rfl)) (fun _ => rfl)) (fun _ => rfl)) (kok_ifexp (kokT_cmp (kOkQ_ok (kq_var 1 rfl rfl rfl)) (kOkQ_ok kq_int) (kQt2_ok kq_lt) rfl) (kok_tuple (kokL_cons (kOkQ_ok (kq_str 1 rfl)) (kokL_cons (kOkQ_ok (kq_var 1 rfl rfl rfl)) kokL_nil (fun _ => rfl)) (fun _ => rfl))) (kOkQ_ok kq_none)) (fun _ _ => rfl) (fun _ _ => rfl) rfl) (kokB_cons (kokS_ret (kOkQ_ok kq_bool)) kokB_nil) kokB_nil) (kokB_cons (kokS_set 4 rfl (by decide) (.inl rfl) (kok_call B rfl (b_bytes B bb) rfl keep_type (kok_fl1 kbytes_ok) (kokL_cons (kok_listcomp (fs := ["deck"]) (is := [0]) (by decide) (kokSrc_R B rfl (b_range B bb) rfl (kok_call B rfl (nm_law_draw B) rfl (kp_law_draw B) (kup (by decide) (c_law_draw B bb)) (kokL_cons (kOkQ_ok (kq_var 0 rfl rfl rfl)) (kokL_cons (kOkQ_ok kq_int) kokL_nil (fun _ => rfl)) (fun _ => rfl)) (fun _ => rfl)) (fun _ _ => rfl)) (kok_sub (kOkQ_ok kq_bytes) (kok_call B rfl (nm_law_draw B) rfl (kp_law_draw B) (kup (by decide) (c_law_draw B bb)) (kokL_cons (kOkQ_ok (kq_var 1 rfl rfl rfl)) (kokL_cons (kOkQ_ok kq_int) kokL_nil (fun _ => rfl)) (fun _ => rfl)) (fun _ => rfl)) (fun _ _ => ⟨_, rfl⟩)) (fun _ _ => rfl)) kokL_nil (fun _ => rfl)) (fun _ => rfl)) (fun _ => rfl)) (kokB_cons (kokS_set 4 rfl (by decide) (.inl rfl) (kok_ifexp (kokT_cmp (kOkQ_ok (kq_var 4 rfl rfl rfl)) (kOkQ_ok kq_bytes) (kQt2_ok kq_neY) rfl) (kok_bin (kOkQ_ok (kq_var 4 rfl rfl rfl)) (kOkQ_ok kq_bytes) (kQt2_ok kq_addY)) (kOkQ_ok (kq_var 4 rfl rfl rfl))) (fun _ => rfl)) (kokB_cons (kokS_set 2 rfl (by decide) (.inl rfl) (kok_list kokL_nil) (fun _ => rfl)) (kokB_cons (kokS_for (kokSrc_Y (kok_ifexp (kokT_cmp (kOkQ_ok (kq_var 4 rfl rfl rfl)) (kOkQ_ok kq_bytes) (kQt2_ok kq_neY) rfl) (kOkQ_ok (kq_var 4 rfl rfl rfl)) (kOkQ_ok kq_bytes))) (kok_bd1 5 rfl (by decide) (.inl rfl)) (kokB_cons (kokS_if (kokT_and (kokT_cmp (kOkQ_ok (kq_var 5 rfl rfl rfl)) (kOkQ_ok kq_bytes) (kQt2_ok kq_inY) rfl) (kokT_cmp (kok_bytes B rfl (b_bytes B bb) rfl (kokL_cons (kOkQ_ok (kq_var 5 rfl rfl rfl)) kokL_nil (fun _ => rfl)) (fun _ _ => rfl)) (kOkQ_ok (kq_var 2 rfl rfl rfl)) (kQt2_ok kq_notIn) rfl)) (kokB_cons (kokS_expr (kok_method _ (kokM_list PySem.F.slot_list_append rfl (kok_fl2 kappend_ok)) (kOkQ_ok (kq_var 2 rfl rfl rfl)) (kokL_cons (kok_bytes B rfl (b_bytes B bb) rfl (kokL_cons (kOkQ_ok (kq_var 5 rfl rfl rfl)) kokL_nil (fun _ => rfl)) (fun _ _ => rfl)) kokL_nil (fun _ => rfl)) (fun _ _ => rfl) (fun _ => rfl)) (fun _ => rfl)) kokB_nil) kokB_nil) kokB_nil) (fun _ _ => rfl)) (kokB_cons (kokS_ret (kok_cmp (kok_call B rfl (b_list B bb) rfl keep_type (kok_fl1 klist_list_ok) (kokL_cons (kok_call B rfl (nm_osc_selections B) rfl (kp_osc_selections B) (kup (by decide) (c_osc_selections B bb)) (kokL_cons (kOkQ_ok (kq_var 4 rfl rfl rfl)) kokL_nil (fun _ => rfl)) (fun _ => rfl)) kokL_nil (fun _ => rfl)) (fun _ => rfl)) (kOkQ_ok (kq_var 2 rfl rfl rfl)) (kQt2_ok kq_eqL) rfl)) kokB_nil))))))))))

theorem c_law_keys_right (B : Bs c (hk c.w.params) mg mb) (bb : ∀ x : Str, x ≠ "__name__" → mb x = bootBuiltins x) : Bx (OkC c 2 (.ref 272) f_law_keys_right) :=
  kokC_def B os_law_keys_right (names := ["deck"]) (fd := fd_law_keys_right) (body := b_law_keys_right) (def_law_keys_right B) (w_law_keys_right B bb)

abbrev os_law : List Str := ["deck", "world", "turn", "many", "palette", "links", "titles", "way"]
noncomputable abbrev x_law : Ctx := ⟨s_law, (["script"] : List Str) ++ os_law⟩
theorem w_law (B : Bs c (hk c.w.params) mg mb) (bb : ∀ x : Str, x ≠ "__name__" → mb x = bootBuiltins x) : Bx (OkB c 6 x_law true b_law d_law) :=
  (kokB_cons (kokS_re (kokS_set 1 rfl (by decide) (.inl rfl) (kok_call B rfl (nm_law_deck B) rfl (kp_law_deck B) (kup (by decide) (c_law_deck B bb)) (kokL_cons (kOkQ_ok (kq_var 0 rfl rfl rfl)) kokL_nil (fun _ => rfl)) (fun _ => rfl)) (fun _ => rfl))) (kokB_cons (kokS_many [4, 5, 6, 7] (by decide) (fun _ => (.cons (stores_name rfl (.inl rfl)) (.cons (stores_name rfl (.inl rfl)) (.cons (stores_name rfl (.inl rfl)) (.cons (stores_name rfl (.inl rfl)) .nil))))) (fun _ => rfl) (kokTu_disp (kokL_cons (kok_bin (kOkQ_ok kq_int) (kok_call B rfl (nm_law_draw B) rfl (kp_law_draw B) (kup (by decide) (c_law_draw B bb)) (kokL_cons (kOkQ_ok (kq_var 1 rfl rfl rfl)) (kokL_cons (kOkQ_ok kq_int) kokL_nil (fun _ => rfl)) (fun _ => rfl)) (fun _ => rfl)) (kQt2_ok kq_add)) (kokL_cons (kok_call B rfl (nm_Palette B) rfl (kp_Palette B) (kup (by decide) (mk_P B bb)) (kokL_cons (kOkQ_ok kq_int) (kokL_cons (kOkQ_ok kq_int) kokL_nil (fun _ => rfl)) (fun _ => rfl)) (fun _ => rfl)) (kokL_cons (kok_call B rfl (nm_Links B) rfl (kp_Links B) (kup (by decide) (mk_L B bb)) kokL_nil (fun _ => rfl)) (kokL_cons (kok_call B rfl (nm_Titles B) rfl (kp_Titles B) (kup (by decide) (mk_T B bb)) kokL_nil (fun _ => rfl)) kokL_nil (fun _ => rfl)) (fun _ => rfl)) (fun _ => rfl)) (fun _ => rfl))) (fun _ => rfl) (fun _ _ => rfl)) (kokB_cons (kokS_set 2 rfl (by decide) (.inl rfl) (kok_dict (kokP_cons (i := 5) rfl (kOkQ_ok kq_int) (kokP_cons (i := 6) rfl (kOkQ_ok kq_int) (kokP_cons (i := 13) rfl (kok_empty (b := false)) (kokP_cons (i := 14) rfl (kok_list kokL_nil) (kokP_cons (i := 15) rfl (kok_tuple (kokL_cons (kOkQ_ok kq_bytes) (kokL_cons (kOkQ_ok kq_bytes) kokL_nil (fun _ => rfl)) (fun _ => rfl))) (kokP_cons (i := 16) rfl (kok_list kokL_nil) kokP_nil)))))) rfl rfl (fun z => nomatch z) (by decide) (by decide)) (fun _ => rfl)) (kokB_cons (kokS_expr (kok_method _ (kokM_inst B (cls_T (P := c.w.params)) rfl rfl (by decide) (kp_T_put B) (kup (by decide) (c_T_put B bb))) (kOkQ_ok (kq_var 7 rfl rfl rfl)) (kokL_cons (kOkQ_ok kq_int) (kokL_cons (kOkQ_ok kq_bytes) kokL_nil (fun _ => rfl)) (fun _ => rfl)) (fun _ _ => rfl) (fun _ => rfl)) (fun _ => rfl)) (kokB_cons (kokS_for (kokSrc_R B rfl (b_range B bb) rfl (kOkQ_ok (kq_var 4 rfl rfl rfl)) (fun _ _ => rfl)) (kok_bd1 3 rfl (by decide) (.inl rfl)) (kokS_re (kokB_cons (kokS_set 8 rfl (by decide) (.inl rfl) (kok_call B rfl (nm_law_draw B) rfl (kp_law_draw B) (kup (by decide) (c_law_draw B bb)) (kokL_cons (kOkQ_ok (kq_var 1 rfl rfl rfl)) (kokL_cons (kOkQ_ok kq_int) kokL_nil (fun _ => rfl)) (fun _ => rfl)) (fun _ => rfl)) (fun _ => rfl)) (kokB_cons (kokS_re (kokS_if (kokT_cmp (kOkQ_ok (kq_var 8 rfl rfl rfl)) (kOkQ_ok kq_int) (kQt2_ok kq_lt) rfl) (kokB_cons (kokS_expr (kok_call B rfl (nm_law_coloured B) rfl (kp_law_coloured B) (kup (by decide) (c_law_coloured B bb)) (kokL_cons (kOkQ_ok (kq_var 1 rfl rfl rfl)) (kokL_cons (kOkQ_ok (kq_var 5 rfl rfl rfl)) (kokL_cons (kOkQ_ok (kq_var 2 rfl rfl rfl)) (kokL_cons (kOkQ_ok (kq_var 8 rfl rfl rfl)) kokL_nil (fun _ => rfl)) (fun _ => rfl)) (fun _ => rfl)) (fun _ => rfl)) (fun _ => rfl)) (fun _ => rfl)) kokB_nil) (kokB_cons (kokS_if (kokT_and (kokT_cmp (kOkQ_ok (kq_var 8 rfl rfl rfl)) (kOkQ_ok kq_int) (kQt2_ok kq_gt) rfl) (kokT_cmp (kOkQ_ok (kq_var 8 rfl rfl rfl)) (kOkQ_ok kq_int) (kQt2_ok kq_lt) rfl)) (kokB_cons (kokS_expr (kok_call B rfl (nm_law_titled B) rfl (kp_law_titled B) (kup (by decide) (c_law_titled B bb)) (kokL_cons (kOkQ_ok (kq_var 1 rfl rfl rfl)) (kokL_cons (kOkQ_ok (kq_var 7 rfl rfl rfl)) (kokL_cons (kOkQ_ok (kq_var 2 rfl rfl rfl)) (kokL_cons (kOkQ_ok (kq_var 8 rfl rfl rfl)) kokL_nil (fun _ => rfl)) (fun _ => rfl)) (fun _ => rfl)) (fun _ => rfl)) (fun _ => rfl)) (fun _ => rfl)) kokB_nil) (kokB_cons (kokS_if (kokT_cmp (kOkQ_ok (kq_var 8 rfl rfl rfl)) (kOkQ_ok kq_int) (kQt2_ok kq_eq) rfl) (kokB_cons (kokS_if (kokT_not (kokT_val (kok_call B rfl (nm_law_keys_right B) rfl (kp_law_keys_right B) (kup (by decide) (c_law_keys_right B bb)) (kokL_cons (kOkQ_ok (kq_var 1 rfl rfl rfl)) kokL_nil (fun _ => rfl)) (fun _ => rfl)) (fun _ => rfl))) (kokB_cons (kokS_ret (kOkQ_ok kq_bool)) kokB_nil) kokB_nil) kokB_nil) (kokB_cons (kokS_if (kokT_not (kokT_val (kok_call B rfl (nm_law_link_right B) rfl (kp_law_link_right B) (kup (by decide) (c_law_link_right B bb)) (kokL_cons (kOkQ_ok (kq_var 1 rfl rfl rfl)) (kokL_cons (kOkQ_ok (kq_var 6 rfl rfl rfl)) (kokL_cons (kOkQ_ok (kq_var 2 rfl rfl rfl)) kokL_nil (fun _ => rfl)) (fun _ => rfl)) (fun _ => rfl)) (fun _ => rfl)) (fun _ => rfl))) (kokB_cons (kokS_ret (kOkQ_ok kq_bool)) kokB_nil) kokB_nil) kokB_nil)) kokB_nil)) kokB_nil))) (kokB_cons (kokS_if (kokT_or (kokT_not (kokT_val (kok_call B rfl (nm_law_palette_right B) rfl (kp_law_palette_right B) (kup (by decide) (c_law_palette_right B bb)) (kokL_cons (kOkQ_ok (kq_var 5 rfl rfl rfl)) (kokL_cons (kOkQ_ok (kq_var 2 rfl rfl rfl)) kokL_nil (fun _ => rfl)) (fun _ => rfl)) (fun _ => rfl)) (fun _ => rfl))) (kokT_cmp (kok_tuple (kokL_cons (kok_attr B (cls_T (P := c.w.params)) 10 rfl rfl (kOkQ_ok (kq_var 7 rfl rfl rfl)) (fun _ => by with_unfolding_all rfl)) (kokL_cons (kok_attr B (cls_T (P := c.w.params)) 11 rfl rfl (kOkQ_ok (kq_var 7 rfl rfl rfl)) (fun _ => by with_unfolding_all rfl)) kokL_nil (fun _ => rfl)) (fun _ => rfl))) (kOkQ_ok (kq_sub2 (kq_var 2 rfl rfl rfl) (kq_str 15 rfl) (fun _ _ => ⟨_, rfl⟩))) (kQt2_ok kq_neT) rfl)) (kokB_cons (kokS_ret (kOkQ_ok kq_bool)) kokB_nil) kokB_nil) kokB_nil)))) (fun _ _ => rfl)) (kokB_cons (kokS_for (kokSrc_R B rfl (b_range B bb) rfl (kOkQ_ok kq_int) (fun _ _ => rfl)) (kok_bd1 3 rfl (by decide) (.inl rfl)) (kokS_re (kokB_cons (kokS_expr (kok_method _ (kokM_inst B (cls_T (P := c.w.params)) rfl rfl (by decide) (kp_T_pop B) (kup (by decide) (c_T_pop B bb))) (kOkQ_ok (kq_var 7 rfl rfl rfl)) (kokL_cons (kOkQ_ok kq_int) kokL_nil (fun _ => rfl)) (fun _ _ => rfl) (fun _ => rfl)) (fun _ => rfl)) (kokB_cons (kokS_item (kok_ifexp (kokT_nil (kOkQ_ok (kq_sub2 (kq_var 2 rfl rfl rfl) (kq_str 16 rfl) (fun _ _ => ⟨_, rfl⟩))) (fun _ => rfl) rfl) (kok_method _ (kokM_list PySem.F.slot_list_pop rfl (kok_fl1 kpop_ok)) (kOkQ_ok (kq_sub2 (kq_var 2 rfl rfl rfl) (kq_str 16 rfl) (fun _ _ => ⟨_, rfl⟩))) kokL_nil (fun _ _ => rfl) (fun _ => rfl)) (kOkQ_ok (kq_sub2 (kq_var 2 rfl rfl rfl) (kq_str 15 rfl) (fun _ _ => ⟨_, rfl⟩)))) (kOkQ_ok (kq_var 2 rfl rfl rfl)) (kOkQ_ok (kq_str 15 rfl)) kput_ok (fun _ => rfl)) (kokB_cons (kokS_if (kokT_cmp (kok_tuple (kokL_cons (kok_attr B (cls_T (P := c.w.params)) 10 rfl rfl (kOkQ_ok (kq_var 7 rfl rfl rfl)) (fun _ => by with_unfolding_all rfl)) (kokL_cons (kok_attr B (cls_T (P := c.w.params)) 11 rfl rfl (kOkQ_ok (kq_var 7 rfl rfl rfl)) (fun _ => by with_unfolding_all rfl)) kokL_nil (fun _ => rfl)) (fun _ => rfl))) (kOkQ_ok (kq_sub2 (kq_var 2 rfl rfl rfl) (kq_str 15 rfl) (fun _ _ => ⟨_, rfl⟩))) (kQt2_ok kq_neT) rfl) (kokB_cons (kokS_ret (kOkQ_ok kq_bool)) kokB_nil) kokB_nil) kokB_nil)))) (fun _ _ => rfl)) (kokB_cons (kokS_ret (kok_call B rfl (nm_law_keys_right B) rfl (kp_law_keys_right B) (kup (by decide) (c_law_keys_right B bb)) (kokL_cons (kOkQ_ok (kq_var 1 rfl rfl rfl)) kokL_nil (fun _ => rfl)) (fun _ => rfl))) kokB_nil)))))))
end
end Og
end

section
open PySem PySem.W PySem.Calls PyProof.Rows
set_option Elab.async false
set_option linter.unusedVariables false
set_option maxRecDepth 100000
set_option maxHeartbeats 4000000
theorem Og.left : LeftO Og.pw Og.vw ["DIRECT"] (fun s => xlAt Og.vw [("DIRECT", WData.int 16777216)] s && recOk [] s) (Hook.obs Og.hkH) (Hook.val Og.hkH) 3646 := fun w => by kernel_rfl
end

section
open PySem PySem.W PySem.Calls PyProof.Rows
set_option Elab.async false
set_option linter.unusedVariables false
set_option maxRecDepth 100000
set_option maxHeartbeats 1000000
namespace Og
theorem join {prog : Program} {w : World} {s₁ : Shared} {mg mb : Str → Option Value} (X : (hk w.params).In s₁.heap) (g : s₁.heap.Ns mainGlobals mg) (b : s₁.heap.Ns builtinsNs mb) (lim : s₁.heap.NoLimit) (bb : ∀ x : Str, x ≠ "__name__" → mb x = bootBuiltins x)
    {fa a : Addr} {cd : Value} {vs : List Value} {ns : List Int} (hL : s₁.heap.IsList a vs.toArray) (hI : IntsAre vs ns) (hn : ns.length ≤ 63) {h₁ : Heap} {tk : Nat} (F : Fr s₁.heap s₁.heap.objs.size h₁ fun x => List.lookup x [(Str.ofString "script", Value.ref a)])
    {E : Value → Shared → Prop} {Q : Flow → Shared → Prop} (q : ∀ h tk, Ext s₁.heap h → Q (.ret (.bool true)) { s₁ with heap := h, toks := tk }) :
    wpAny (model prog w) (callerA.deeper (envOf "law" s_law s₁.heap.objs.size fa cd)) (execs b_law (envOf "law" s_law s₁.heap.objs.size fa cd)) Q E { s₁ with heap := h₁, toks := tk } := by
  have sys : ∃ o, s₁.heap.get? sysModules = some o := ⟨_, X _ _ rfl⟩
  let c : Cf := ⟨prog, w, s₁, sys⟩
  have B : Bs c (hk c.w.params) mg mb := ⟨X, g, b, lim⟩
  have rep : Rep c [] [] h₁ := ⟨F.keep, rfl, fun i a ao e => (nomatch e), .nil, fun a m => (nomatch m)⟩
  have noC : ∀ y, (envOf "law" s_law s₁.heap.objs.size fa cd).cells.lookup y = none := fun y => rfl
  have nocell : s_law.names.all (fun y => decide (y.2 ≠ .cell)) = true := by decide
  have fx : ∀ y, FrX (envOf "law" s_law s₁.heap.objs.size fa cd) y → y = s₁.heap.objs.size := fun y z => z.elim id fun ⟨x, e⟩ => by rw [noC x] at e; cases e
  have fr : FrameIs x_law (⟨[], [], h₁, tk, rep⟩ : Sit c) [some (.ints ns), none, none, none, none, none, none, none, none] (envOf "law" s_law s₁.heap.objs.size fa cd) :=
    ⟨⟨rfl, rfl, rfl, rfl, fun y z => (by rw [fx y z]; exact size_none _), fun x a e => (by rw [noC x] at e; cases e), fun x y a e => (by rw [noC x] at e; cases e), fun x e => absurd rfl (of_decide_eq_true (List.all_eq_true.mp nocell _ (mem_of_lookup e)))⟩,
      fun y _ m => (nomatch m), fun x a e => (by rw [noC x] at e; cases e), _, F.ns, fun i x av e1 e2 => by
        rcases i with _ | _ | _ | _ | _ | _ | _ | _ | _ | i
        · cases e1; cases e2
          exact ⟨.ref a, ⟨a, vs, rfl, hL, hI⟩, .inl ⟨rfl, rfl⟩⟩
        all_goals cases e2⟩
  refine (w_law B bb).h (⟨[], [], h₁, tk, rep⟩ : Sit c) _ _ fr (R := fun r _ => r = .at (.bool true)) (K := fun _ _ => False) ⟨rfl, rfl, Nat.le_of_ble_eq_true rfl, Nat.le_of_ble_eq_true rfl⟩ (law_ok hn) (fun S' r v _ e i => ?_) fun _ _ _ _ e => e.elim
  subst e
  have i : v = .bool true := i
  subst i
  exact q S'.h S'.tk S'.rep.keep
end Og
end

open PySem PySem.W PySem.Calls PyProof.Rows
set_option Elab.async false
set_option linter.unusedVariables false
set_option maxRecDepth 100000
set_option maxHeartbeats 4000000
theorem PySem.Challenge.cw_og0242_01_holds : PySem.Challenge.rw_og0242_01.Holds := by
  w_on
  refine holds_law (by decide +kernel) fun said => ?_
  refine holds_open (r := PySem.Challenge.rw_og0242_01.row) (q := Og.vw) (loose := ["DIRECT"]) (Xt := fun s => xlAt Og.vw [("DIRECT", WData.int 16777216)] s && recOk [] s) (XP := XL Og.vw [("DIRECT", WData.int 16777216)]) (Yf := Hook.obs Og.hkH) (Ya := Hook.val Og.hkH) (YP := Hook.says Og.hkH) (N := 3646) Og.left (Hook.of Og.hkH) (Hook.keeps Og.hkH)
    (fun s e => xl_of s (Bool.and_eq_true_iff.mp e).1) XL.keeps (by rfl) (by rfl) (by rfl) (fun s e => recFacts_of (Bool.and_eq_true_iff.mp e).2) (by rfl) said (by decide +kernel) ⟨rfl, rfl, rfl, rfl, rfl, by decide +kernel⟩ ?hw ?hc
  case hw => w_witness2
  case hc =>
    intro w s₀ s₁ mg mb G Y fa o pm cd doc dV kV ho hd hcd hD hmg hg args vals as hpre hlay hrd hwl hlo
    have KX := kIn_of Y
    k_behind G ho hd hcd hD hmg hpre hlay hrd hwl hlo cd
    refine Og.join KX G.T.g G.T.b G.T.nolimit G.T.builtins (by assumption) (by assumption) (by omega) (by assumption) fun h tk e => ?_
    exact ⟨.inl ⟨.bool true, .bool true, [], rfl, raisesW_false (by wrow_none_raised), .bool true, by wrow_post, fun _ => ⟨.nil, fun _ m => nomatch m⟩⟩, e, rfl, hg⟩
