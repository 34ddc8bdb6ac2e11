import PyProof.Rows.All
import Wide.All
import OpenK.AllK
import Wide.FinOn
import PyProof.StationsW
import PyProof.Cells
import PyProof.Walks
import PyProof.WalksMore
import PyProof.RangeIter
import PyProof.Rows.Frame
import PyProof.ListIndex
import PyProof.Rules2
import PyProof.Rules3
import PyProof.PureInt
import PyProof.IsRules
import PyProof.EqLayable
import PyProof.Rows.RuleB_mul
import PyProof.Rows.RuleB_mod
import PyProof.Rows.RuleB_floordiv
import PyProof.Rows.RuleB_small
import PyProof.Rows.EqDataRows
import PyProof.NoPylong
import PyProof.RulesDelMore
import PyProof.ForAny
import PyProof.RulesAs
import PyProof.NsDelKeeps
import PyProof.SliceMore
import PyProof.Rows.TupMore
import PyProof.Rows.TupSub
import PyProof.Rows.StrTemp
import PyProof.Rows.TupAdd
import PyProof.ListIndexNeg
import PyProof.ListMulAny
import PyProof.Rows.ListMul
import PyProof.ListRange
import PyProof.TupleOfSeq
import PyProof.ListCopy
import PyProof.RangeFor
import PyProof.ConsumeWalk
import PyProof.CallStr
import PyProof.Rows.SortWalk
import PyProof.Rows.Lst
import PyProof.Rows.Range3
import PyProof.Rows.ListMade
import PyProof.ListOps
import PyProof.CallRoads
import PyProof.Rows.TupAssign
import PyProof.EnumMake
import PyProof.Draws
import PyProof.Rows.TupIter
import PyProof.CompFree
import PyProof.CompUse
import KE.KRevSl
import PyProof.P3In
import PyProof.SliceStr2
import PyProof.StrOps
import PyProof.Rows.StrWeight2
import PyProof.Rows.StrIndexOr
import PyProof.StrLoop
import PyProof.StrWalks
import PyProof.Rows.StrMadeLen
import PyProof.Rows.SortStr
import PyProof.CollectStr
import PyProof.ListStr
import PyProof.DictRoadsH
import PyProof.MeetsDict
import PyProof.DictKinds
import PyProof.FactsAll.dict_0
import PyProof.FactsAll.dict_3
import PyProof.InstStore
import KE.KRevIter
import PyProof.Conv_int_bool
import PyProof.EqAt
import PyProof.FactsAll.list_3
import PyProof.WalkInts
import PyProof.SeqI3
import PyProof.Rows.SeqJoint
import Open.Head
import PySem.Challenge.RW_uf010040_10
set_option tactic.hygienic false
set_option compiler.extract_closed false
set_option genSizeOfSpec false
set_option bootstrap.genMatcherCode false
section
open PySem PySem.W PyProof.Rows
set_option Elab.async false
set_option maxRecDepth 100000
set_option maxHeartbeats 80000000
namespace Mine
noncomputable def vw : Program := view PySem.Challenge.pw_uf010040_10 [0, 2, 3, 4, 5, 6, 7, 8, 9, 11, 12, 13, 14, 15, 16, 18, 19, 20, 21, 23, 24, 25, 26, 27, 28, 29, 31, 32, 34, 35, 36, 38, 39, 40, 41, 42, 43, 44, 45, 46, 47, 48, 49, 50, 51, 52, 53, 54, 55, 56, 57]
local macro_rules | `(tactic| o_head $H) => `(tactic| (refine holds_open (q := vw) (loose := []) (Xt := fun s => xlAt vw [] s && recOk [] s) (XP := XL vw []) (Yf := Hook.obs $H) (Ya := Hook.val $H) (YP := Hook.says $H) (N := 8000) ?hl (Hook.of $H) (Hook.keeps $H) (fun s e => xl_of s (Bool.and_eq_true_iff.mp e).1) XL.keeps (by rfl) (by rfl) (by rfl) (fun s e => recFacts_of (Bool.and_eq_true_iff.mp e).2) (by rfl) (by first | assumption | decide +kernel) (by decide +kernel) ⟨rfl, rfl, rfl, rfl, rfl, by decide +kernel⟩ ?hw ?hc; (case hl => (intro w; unfold openEnds topFrom; rw [PySem.W.Fast.te14082659384304107361, PySem.W.Fast.te14364793385576792824, PySem.W.Fast.te4187177175401517315]; kernel_rfl))))
local macro_rules | `(tactic| o_law) => `(tactic| refine holds_law (by decide +kernel) fun said => ?_)
open_top hd for PySem.Challenge.rw_uf010040_10
end Mine
end

section
set_option Elab.async false
set_option maxRecDepth 100000
namespace Mine
open PySem PySem.W
theorem omB {a b k : Nat} (h : a ≤ b) : a ≤ k + b := Nat.le_trans h (Nat.le_add_left _ _)
theorem omP {a b c k : Nat} (h : a + b ≤ c) : a ≤ k + c := Nat.le_trans (Nat.le_trans (Nat.le_add_right _ _) h) (Nat.le_add_left _ _)
theorem omL {a b k : Nat} (h : a < b) : a ≤ k + b := Nat.le_trans (Nat.le_of_lt h) (Nat.le_add_left _ _)
theorem omM {a b c k : Nat} (h : a < b) (h2 : b ≤ c) : a ≤ k + c := omB (Nat.le_trans (Nat.le_of_lt h) h2)
theorem omN {a b : Nat} (h : a ≤ b) : ¬ (b : Int) < (a : Int) := Int.not_lt.mpr (Int.ofNat_le.mpr h)
theorem omI {i n : Nat} (h : i < n) (h2 : n ≤ 9223372036854775808) : (i : Int) < 2 ^ 63 := Int.ofNat_lt.mpr (Nat.lt_of_lt_of_le h h2)
theorem omS {a b c k : Nat} (h : a + (b + 1) ≤ c) : a + 1 + b ≤ k + c := by rw [Nat.add_right_comm]; exact omB h
section
variable {prog : Program} {w : World} {A : Around} {E : Value → Shared → Prop} {h : Heap} {g : Array GenState} {d : Drawn} {t : Nat} {os : OsState} {a C : Addr} {o : Obj} {K : Frag}
theorem GU {M : Model} {nameV : Value} {Q : Unit → Shared → Prop} (X : K.In h) (hx : h.get? a = some o) (hc : o.cls = .ref C) (hm : mroIn K C (.type "BaseException") = some true)
  (hq : Q () ⟨h, g, d, t, os⟩) : wpAny M A (checkBuiltinCall "BaseException.__getattribute__" ⟨[.ref a, nameV], []⟩) Q E ⟨h, g, d, t, os⟩ := by
 have hk : builtinKind "BaseException.__getattribute__" = some .slot := by decide +kernel
 have hsplit : splitId "BaseException.__getattribute__" = some ("BaseException", "__getattribute__") := by decide +kernel
 have ha := F.args_bexc_ga (.ref a) nameV
 have L1 := looks_mroIn (M := M) X hm
 simp only [checkBuiltinCall, hk, hsplit]
 refine wpAny_bind ?_
 unfold isInstance
 repeat (first | (with_reducible refine wpAny_loadPart_at hx ?_; rw [hc]) | (with_reducible refine L1.at ?_) | wp_step)
 exact hq
theorem Lb {R : Result → Shared → Prop} {tp : Value} (X : K.In h) (hx : h.get? a = some o) (hc : o.cls = .ref C) (hm : mroIn K C (.type "object") = some true) (hn : notCls o = true) (hd : o.dict = none)
  (hq : R (.ok (.ret (.ref C))) ⟨h, g, d, t, os⟩) : codeAny (model prog w) A (.call (.builtin "getset_descriptor.__get__") ⟨[.builtin "object.__class__", .ref a, tp], []⟩) R ⟨h, g, d, t, os⟩ :=
 class_get (ox := o) (od := none) X ⟨hx, hc, hn, by rw [hd]; trivial⟩ hm hq
theorem Hm {tk : Tok} {Q : Fin → Shared → Prop} (X : K.In h) (hx : h.get? a = some o) (hc : o.cls = .ref C) (hm : mroIn K C (.type "object") = some true) (hn : notCls o = true) (hd : o.dict = none)
  (hf : findObj K C none "__class__" = some (.bind (.builtin "getset_descriptor.__get__") (.builtin "object.__class__"))) (hq : Q (.done (.ret (.ref C))) ⟨h, g, d, t, os⟩) :
  wpAny (model prog w) A (Builtin.«object.__getattribute__» ⟨[.ref a, .str "__class__" tk], []⟩) Q E ⟨h, g, d, t, os⟩ := by
 have I : InstAt h a o C none := ⟨hx, hc, hn, by rw [hd]; trivial⟩
 have L0 := I.type (M := model prog w)
 have L1 := looks_find (M := model prog w) X I hf
 unfold Builtin.«object.__getattribute__»
 refine wpAny_bind (wpAny_pure ?_)
 refine wpAny_bind (m := Builtin.ObjectAttr.attrName _) (wpAny_pure ?_)
 refine wpAny_bind (L0.at (wpAny_bind (L1.at ?_)))
 show wpAny _ _ (holding [Value.builtin "object.__class__"] (call (.builtin "getset_descriptor.__get__") [.builtin "object.__class__", .ref a, .ref C]) >>= ret) _ _ _
 exact wpAny_bind (wpAny_holding (wpAny_call (Lb X hx hc hm hn hd (wpAny_pure hq))))
theorem Lq {tk : Tok} {fill expr : Bool} {Q : Value → Shared → Prop} (X : K.In h) (hx : h.get? a = some o) (hc : o.cls = .ref C) (hm : mroIn K C (.type "object") = some true) (hmb : mroIn K C (.type "BaseException") = some true) (hn : notCls o = true) (hd : o.dict = none)
  (hga : findIn K (.ref C) "__getattribute__" = some (some (.builtin "BaseException.__getattribute__"))) (hgt : findIn K (.ref C) "__getattr__" = some none)
  (hf : findObj K C none "__class__" = some (.bind (.builtin "getset_descriptor.__get__") (.builtin "object.__class__"))) (hq : Q (.ref C) ⟨h, g, d, t, os⟩) :
  wpAny (model prog w) A (getAttrBy (.ref a) (.str "__class__" tk) fill expr) Q E ⟨h, g, d, t, os⟩ := by
 have I : InstAt h a o C none := ⟨hx, hc, hn, by rw [hd]; trivial⟩
 have L0 := I.type (M := model prog w)
 have L1 := looks_findIn (M := model prog w) X hga
 have L2 := looks_findIn (M := model prog w) X hgt
 have f3 := F.excAttr_ValueError.ga.bind (.ref a)
 have hx0 : (expr && onTheHeap (Value.builtin "BaseException.__getattribute__")) = false := by cases expr <;> rfl
 have hx2 : (Value.builtin "BaseException.__getattribute__" == Value.builtin "object.__getattribute__") = false := by decide +kernel
 have hx1 : (onTheHeap (Value.ref C) && Value.builtin "BaseException.__getattribute__" == Value.builtin "object.__getattribute__") = false := by rw [hx2]; rfl
 repeat (any_goals (first | assumption | (with_reducible refine L0.at ?_) | (with_reducible refine L1.at ?_) | (with_reducible refine L2.at ?_) | wp_step))
 refine codeAny_call_builtin F.excAttr_ValueError.ga.plain F.entry_bexc_ga (GU X hx hc hmb (Hm X hx hc hm hn hd hf ?_))
 show wpAny _ _ (handedOut (.ref C)) _ _ _
 exact handed_on rfl hq
set_option tactic.hygienic true in
theorem HR (hm : mroIn K C (.type "object") = some true) (hmb : mroIn K C (.type "BaseException") = some true) (hcl : (clsIn K C).isSome = true)
  (hga : findIn K (.ref C) "__getattribute__" = some (some (.builtin "BaseException.__getattribute__"))) (hgt : findIn K (.ref C) "__getattr__" = some none)
  (hf : findObj K C none "__class__" = some (.bind (.builtin "getset_descriptor.__get__") (.builtin "object.__class__"))) :
  KitX K (.ref a) (.ref C) (fun h => ∃ o, h.get? a = some o ∧ o.cls = .ref C ∧ notCls o = true ∧ o.dict = none) where
 ty := fun _ _ _ I => by obtain ⟨o, h1, h2, h3, h4⟩ := I; exact InstAt.type (od := none) ⟨h1, h2, h3, by rw [h4]; trivial⟩
 it := fun M h X _ => by
  unfold clsIn at hcl
  split at hcl
  ·rename_i ho
   intro A' Q' E' s' k q
   unfold isType loadHead
   exact wpAny_bind (wpAny_loadPart (k _ _ (X _ _ ho)) (wpAny_pure q))
  ·cases hcl
 ne := fun h tp dd its n sl X e => by
  unfold clsIn at hcl
  split at hcl
  ·rename_i ho
   refine Bool.eq_false_iff.mpr fun q => ?_
   cases beq_iff_eq.mp q
   rw [X _ _ ho] at e; cases e
  ·cases hcl
 ca := fun {prog w A E Q s} X I k => by
  obtain ⟨o, h1, h2, h3, h4⟩ := I
  obtain ⟨h, g, d, t, os⟩ := s
  unfold getAttr? getAttrBy?
  refine wpAny_bind (wpAny_mkText (wpAny_bind (wpAny_attempt ?_)))
  exact Lq X h1 h2 hm hmb h3 h4 hga hgt hf (wpAny_pure k)
noncomputable def VP (K : Frag) (C : Addr) : Bool := mroIn K C (.type "object") == some true && mroIn K C (.type "BaseException") == some true && (clsIn K C).isSome && findIn K (.ref C) "__getattribute__" == some (some (.builtin "BaseException.__getattribute__")) &&
 findIn K (.ref C) "__getattr__" == some none && (match findObj K C none "__class__" with | some (.bind g a) => g == .builtin "getset_descriptor.__get__" && a == .builtin "object.__class__" | _ => false)
set_option tactic.hygienic true in
theorem Er (e : VP K C = true) : KitX K (.ref a) (.ref C) (fun h => ∃ o, h.get? a = some o ∧ o.cls = .ref C ∧ notCls o = true ∧ o.dict = none) := by
 unfold VP at e
 simp only [Bool.and_eq_true, beq_iff_eq] at e
 obtain ⟨⟨⟨⟨⟨h1, h2⟩, h3⟩, h4⟩, h5⟩, h6⟩ := e
 refine HR h1 h2 h3 h4 h5 ?_
 split at h6
 ·rename_i gg aa hf
  rw [Bool.and_eq_true, beq_iff_eq, beq_iff_eq] at h6
  rw [hf, h6.1, h6.2]
 ·cases h6
set_option tactic.hygienic true in
theorem B3 {M : Model} {C' : Addr} {b : Bool} {Q : Bool → Shared → Prop} {s : Shared} (X : K.In s.heap) (hx : s.heap.get? a = some o) (hc : o.cls = .ref C) (hty : typeIn K (.ref C') = some (.type "type")) (hcl : (clsIn K C').isSome = true) (hbe : mroIn K C' (.type "BaseException") = some true)
  (hs : mroIn K C (.ref C') = some b) (hq : Q b s) : wpAny M A (excMatches (.ref a) (.ref C')) Q E s := by
 have L1 := looks_typeIn (M := M) X hty
 have L2 : Looks M s.heap (isSubtype (.type "type") (.type "tuple")) false := looks_subIn (K := K) X (by kernel_rfl)
 have L3 : Looks M s.heap (isType (.ref C')) true := by
  unfold clsIn at hcl
  split at hcl
  ·rename_i ho
   intro A' Q' E' s' k q
   unfold isType loadHead
   exact wpAny_bind (wpAny_loadPart (k _ _ (X _ _ ho)) (wpAny_pure q))
  ·cases hcl
 have L4 := looks_mroIn (M := M) X hbe
 have L5 : Looks M s.heap (typeOf (.ref a)) (.ref C) := by have := (Looks.ld (M := M) (part := some headPart) hx).andThen (f := fun o => pure o.cls) .now; rw [hc] at this; exact this
 have L6 := looks_mroIn (M := M) X hs
 unfold excMatches
 refine wpAny_bind ((L1.andThen (f := fun t => isSubtype t (.type "tuple")) L2).here ?_)
 simp only [Bool.false_eq_true, if_false]
 refine wpAny_bind (wpAny_pure ?_)
 rw [List.forIn_cons]
 refine wpAny_bind (wpAny_bind ?_)
 show wpAny _ _ (isExcClass (.ref C') >>= _) _ _ _
 refine wpAny_bind ?_
 unfold isExcClass
 refine wpAny_bind (L3.here ?_)
 simp only [if_true]
 refine L4.here ?_
 simp only [Bool.not_true, Bool.false_eq_true, if_false]
 refine wpAny_pure ?_
 dsimp only
 rw [List.forIn_nil]
 refine wpAny_pure (wpAny_bind (L5.here ?_))
 rw [List.forIn_cons]
 refine wpAny_bind (wpAny_bind (wpAny_bind (L6.here ?_)))
 cases b with
 | true => simp only [if_true]; exact wpAny_pure (wpAny_pure (wpAny_pure hq))
 | false => simp only [Bool.false_eq_true, if_false]; exact wpAny_pure (by dsimp only; rw [List.forIn_nil]; exact wpAny_pure (wpAny_pure hq))
end
end Mine
end

section
set_option Elab.async false
set_option maxRecDepth 100000
namespace Mine
open PySem
theorem nn {α : Type} {a : α} {P : Prop} (h : (Option.none : Option α) = Option.some a) : P := by cases h
theorem ifs {c : Prop} [Decidable c] {α : Type} {a : Option α} {t : α} (h : (if c then a else none) = some t) : c ∧ a = some t := by
 by_cases hc : c
 ·rw [if_pos hc] at h; exact ⟨hc, h⟩
 ·rw [if_neg hc] at h; exact nn h
inductive D where
 | none
 | bool (b : Bool)
 | int (i : Int)
 | str (x : Str)
 | tup (ds : List D)
 | list (ds : List D)
 | range (lo hi st : Int)
 | exc (C : Addr)
 | glob (v : Value)
 | dict (ks : List (List Int)) (ds : List D)
 | obj (C : Addr) (ns : List Str) (ds : List D)
noncomputable def asI : D → Option Int
 | .int i => some i
 | _ => none
theorem JD {x : D} {i : Int} (e : asI x = some i) : x = .int i := by
 cases x <;> first | (cases e; rfl) | exact nn e
inductive T where
 | sh (d : D)
 | ow (m : Bool) (d : D)
noncomputable def T.val : T → D
 | .sh d => d
 | .ow _ d => d
noncomputable def T.get : T → Option D
 | .sh d => some d
 | .ow _ (.list ds) => some (.list ds)
 | .ow _ _ => none
noncomputable def Fs : D → Bool
 | .int _ => true
 | _ => false
noncomputable def LT (o : Obj) (_ : List D) : Prop := o.dict = Option.none ∧ o.slots = #[]
noncomputable def JC (o : Obj) : Prop := ∀ es n, o.data ≠ .dict es n
theorem JC.seq {o : Obj} {vs : Array Value} {n : Nat} (h : o.data = .seq vs n) : JC o := fun es m q => by rw [h] at q; cases q
theorem JC.fields {o : Obj} {vs : Array Value} (h : o.data = .fields vs) : JC o := fun es m q => by rw [h] at q; cases q
inductive Kept (h' : Heap) (b : Addr) (o : Obj) : Prop
 | mk (sl : Array (Option Value)) (e : h'.get? b = some { o with slots := sl }) (k : JC o → sl = o.slots) : Kept h' b o
noncomputable def Kp (h h' : Heap) : Prop := ∀ b o, h.get? b = some o → Kept h' b o
theorem Kp.trans {h₁ h₂ h₃ : Heap} (x : Kp h₁ h₂) (y : Kp h₂ h₃) : Kp h₁ h₃ := fun b o e => by
 obtain ⟨sl, e₁, q₁⟩ := x b o e
 obtain ⟨sl', e₂, q₂⟩ := y b _ e₁
 exact ⟨sl', e₂, fun hc => (q₂ hc).trans (q₁ hc)⟩
theorem Kp.of_keeps {h h' : Heap} (k : ∀ b o, h.get? b = some o → h'.get? b = some o) : Kp h h' := fun b o e => ⟨o.slots, k b o e, fun _ => rfl⟩
theorem Kp.exact {h h' : Heap} (x : Kp h h') {b : Addr} {o : Obj} (e : h.get? b = some o) (hc : JC o) : h'.get? b = some o := by
 obtain ⟨sl, e₁, q⟩ := x b o e
 rw [q hc] at e₁; exact e₁
theorem Kp.dom {h h' : Heap} (x : Kp h h') {b : Addr} {o : Obj} (e : h.get? b = some o) : ∃ o', h'.get? b = some o' := let ⟨_, e₁, _⟩ := x b o e; ⟨_, e₁⟩
theorem Kp.ns {h h' : Heap} (x : Kp h h') {a : Addr} {m : Str → Option Value} (hn : h.Ns a m) : h'.Ns a m := by
 obtain ⟨o, es, ep, ho, hd, r⟩ := hn
 obtain ⟨sl, e₁, _⟩ := x a o ho
 exact ⟨_, es, ep, e₁, hd, r⟩
theorem Kp.cell {h h' : Heap} (x : Kp h h') {c : Addr} {v : Option Value} (hn : h.IsCell c v) : h'.IsCell c v := by
 obtain ⟨o, ho, hd⟩ := hn
 obtain ⟨sl, e₁, _⟩ := x c o ho
 exact ⟨_, e₁, hd⟩
theorem Kp.none {h h' : Heap} (x : Kp h h') {b : Addr} (e : h'.get? b = none) : h.get? b = none := by
 cases q : h.get? b with
 | none => rfl
 | some o => obtain ⟨_, e₁, _⟩ := x b o q; rw [e] at e₁; cases e₁
noncomputable def Imm (o : Obj) : Prop := (o.cls = .type "tuple" ∧ ∃ vs n, o.data = .seq vs n) ∨ ∃ vs, o.data = .fields vs
mutual
inductive RV (S : Addr → Prop) (h : Heap) : Value → D → Prop
 | none : RV S h .none .none
 | bool (b : Bool) : RV S h (.bool b) (.bool b)
 | int (i : Int) (t : Tok) : RV S h (.int i t) (.int i)
 | str (x : Str) (t : Tok) : RV S h (.str x t) (.str x)
 | tup {a : Addr} {o : Obj} {vs : Array Value} {n : Nat} {ds : List D} : h.get? a = some o → o.cls = .type "tuple" → o.data = .seq vs n → RVs S h vs.toList ds → RV S h (.ref a) (.tup ds)
 | list {a : Addr} {o : Obj} {vs : Array Value} {n : Nat} {ds : List D} : S a → h.get? a = some o → (o.cls = .type "list" ∧ LT o ds) → o.data = .seq vs n → RVs S h vs.toList ds → RV S h (.ref a) (.list ds)
 | range {a : Addr} {lo hi st : Int} {t u v : Tok} : IsRange h a lo hi st t u v → RV S h (.ref a) (.range lo hi st)
 | exc {a : Addr} {o : Obj} {vs : Array Value} {C : Addr} : h.get? a = some o → o.cls = .ref C → o.dict = none → o.data = .fields vs → vs[2]? = some .none → RV S h (.ref a) (.exc C)
 | glob (v : Value) : (∀ a, v = .ref a → ∃ o, h.get? a = some o) → RV S h v (.glob v)
 | obj {a dx C : Addr} {m : Str → Option Value} {ns : List Str} {vs : List Value} {ds : List D} : S a → S dx → h.get? a = some (W.instObj C dx) → h.Ns dx m → (ns.map m = vs.map some ∧ ∀ y, y ∉ ns → m y = Option.none) → RVs S h vs ds → RV S h (.ref a) (.obj C ns ds)
inductive RVs (S : Addr → Prop) (h : Heap) : List Value → List D → Prop
 | nil : RVs S h [] []
 | cons {v : Value} {d : D} {vs : List Value} {ds : List D} : RV S h v d → RVs S h vs ds → RVs S h (v :: vs) (d :: ds)
end
structure Ext (S : Addr → Prop) (h : Heap) (S' : Addr → Prop) (h' : Heap) : Prop where
 sub : ∀ b, S b → S' b
 keep : ∀ b o, h.get? b = some o → (S b ∨ Imm o) → Kept h' b o
 dom : ∀ b o, h.get? b = some o → ∃ o', h'.get? b = some o'
theorem Ext.exact {S : Addr → Prop} {h : Heap} {S' : Addr → Prop} {h' : Heap} (x : Ext S h S' h') {b : Addr} {o : Obj} (e : h.get? b = some o) (q : S b ∨ Imm o) (hn : JC o) : h'.get? b = some o := by
 obtain ⟨sl, e₁, k⟩ := x.keep b o e q
 rw [k hn] at e₁; exact e₁
theorem Ext.ns {S : Addr → Prop} {h : Heap} {S' : Addr → Prop} {h' : Heap} (x : Ext S h S' h') {a : Addr} {m : Str → Option Value} (q : S a) (hn : h.Ns a m) : h'.Ns a m := by
 obtain ⟨o, es, ep, ho, hd, r⟩ := hn
 obtain ⟨sl, e₁, _⟩ := x.keep a o ho (.inl q)
 exact ⟨_, es, ep, e₁, hd, r⟩
theorem Ext.refl (S : Addr → Prop) (h : Heap) : Ext S h S h := ⟨fun _ x => x, fun _ o e _ => ⟨o.slots, e, fun _ => rfl⟩, fun _ o e => ⟨o, e⟩⟩
theorem Ext.trans {S₁ S₂ S₃ : Addr → Prop} {h₁ h₂ h₃ : Heap} (x : Ext S₁ h₁ S₂ h₂) (y : Ext S₂ h₂ S₃ h₃) : Ext S₁ h₁ S₃ h₃ :=
 ⟨fun b q => y.sub b (x.sub b q), fun b o e q => by
  obtain ⟨sl, e₁, k₁⟩ := x.keep b o e q
  obtain ⟨sl', e₂, k₂⟩ := y.keep b _ e₁ (q.imp (x.sub b) id)
  exact ⟨sl', e₂, fun hn => (k₂ hn).trans (k₁ hn)⟩, fun b o e => let ⟨o', e'⟩ := x.dom b o e; y.dom b o' e'⟩
theorem Ext.none {S S' : Addr → Prop} {h h' : Heap} (x : Ext S h S' h') {b : Addr} (e : h'.get? b = none) : h.get? b = none := by
 cases q : h.get? b with
 | none => rfl
 | some o => obtain ⟨_, e₁⟩ := x.dom b o q; rw [e] at e₁; cases e₁
structure Carry (S : Addr → Prop) (h : Heap) (S' : Addr → Prop) (h' : Heap) : Prop where
 tup : ∀ {a : Addr} {o : Obj} {vs : Array Value} {n : Nat}, h.get? a = some o → o.cls = .type "tuple" → o.data = .seq vs n → h'.get? a = some o
 list : ∀ {a : Addr} {o : Obj} {vs : Array Value} {n : Nat}, S a → h.get? a = some o → o.cls = .type "list" → o.data = .seq vs n → S' a ∧ h'.get? a = some o
 range : ∀ {a : Addr} {lo hi st : Int} {t u v : Tok}, IsRange h a lo hi st t u v → IsRange h' a lo hi st t u v
 exc : ∀ {a : Addr} {o : Obj} {vs : Array Value} {C : Addr}, h.get? a = some o → o.cls = .ref C → o.dict = none → o.data = .fields vs → vs[2]? = some .none → RV S' h' (.ref a) (.exc C)
 dom : ∀ a o, h.get? a = some o → ∃ o', h'.get? a = some o'
 obj : ∀ {a dx C : Addr} {m : Str → Option Value}, S a → S dx → h.get? a = some (W.instObj C dx) → h.Ns dx m → S' a ∧ S' dx ∧ h'.get? a = some (W.instObj C dx) ∧ h'.Ns dx m
section
variable {S S' : Addr → Prop} {h h' : Heap}
theorem RV.map (x : Carry S h S' h') {v : Value} {d : D} (q : RV S h v d) : RV S' h' v d :=
 RV.rec (motive_1 := fun v d _ => RV S' h' v d) (motive_2 := fun vs ds _ => RVs S' h' vs ds) .none .bool .int .str (fun e hc hd _ r => .tup (x.tup e hc hd) hc hd r) (fun hs e hc hd _ r => .list (x.list hs e hc.1 hd).1 (x.list hs e hc.1 hd).2 hc hd r) (fun e => .range (x.range e)) (fun e hc hn hd r => x.exc e hc hn hd r) (fun v hv => .glob v fun a e => let ⟨o, e'⟩ := hv a e; x.dom a o e') (fun s1 s2 e n hm _ r => let ⟨t1, t2, e', n'⟩ := x.obj s1 s2 e n; .obj t1 t2 e' n' hm r) .nil (fun _ _ a b => .cons a b) q
theorem RVs.map (x : Carry S h S' h') {vs : List Value} {ds : List D} (q : RVs S h vs ds) : RVs S' h' vs ds :=
 RVs.rec (motive_1 := fun v d _ => RV S' h' v d) (motive_2 := fun vs ds _ => RVs S' h' vs ds) .none .bool .int .str (fun e hc hd _ r => .tup (x.tup e hc hd) hc hd r) (fun hs e hc hd _ r => .list (x.list hs e hc.1 hd).1 (x.list hs e hc.1 hd).2 hc hd r) (fun e => .range (x.range e)) (fun e hc hn hd r => x.exc e hc hn hd r) (fun v hv => .glob v fun a e => let ⟨o, e'⟩ := hv a e; x.dom a o e') (fun s1 s2 e n hm _ r => let ⟨t1, t2, e', n'⟩ := x.obj s1 s2 e n; .obj t1 t2 e' n' hm r) .nil (fun _ _ a b => .cons a b) q
theorem Ext.carry (x : Ext S h S' h') : Carry S h S' h' where
 tup := fun e hc hd => x.exact e (.inr (.inl ⟨hc, _, _, hd⟩)) (.seq hd)
 list := fun hs e hc hd => ⟨x.sub _ hs, x.exact e (.inl hs) (.seq hd)⟩
 range := fun e => x.exact e (.inr (.inr ⟨_, rfl⟩)) (.fields rfl)
 exc := fun e hc hn hd r => .exc (x.exact e (.inr (.inr ⟨_, hd⟩)) (.fields hd)) hc hn hd r
 dom := x.dom
 obj := fun s1 s2 e n => ⟨x.sub _ s1, x.sub _ s2, x.exact e (.inl s1) (fun es m q => by cases q), x.ns s2 n⟩
theorem RV.ext (x : Ext S h S' h') {v : Value} {d : D} (q : RV S h v d) : RV S' h' v d := q.map x.carry
theorem RVs.ext (x : Ext S h S' h') {vs : List Value} {ds : List D} (q : RVs S h vs ds) : RVs S' h' vs ds := q.map x.carry
end
theorem Ext.of_keeps {S : Addr → Prop} {h h' : Heap} (k : ∀ b o, h.get? b = some o → h'.get? b = some o) : Ext S h S h' := ⟨fun _ q => q, fun b o e _ => ⟨o.slots, k b o e, fun _ => rfl⟩, fun b o e => ⟨o, k b o e⟩⟩
theorem Ext.of_kp {S : Addr → Prop} {h h' : Heap} (k : Kp h h') : Ext S h S h' := ⟨fun _ q => q, fun b o e _ => k b o e, fun _ _ e => k.dom e⟩
theorem Ext.grow {S S' : Addr → Prop} {h : Heap} (q : ∀ b, S b → S' b) : Ext S h S' h := ⟨q, fun _ o e _ => ⟨o.slots, e, fun _ => rfl⟩, fun _ o e => ⟨o, e⟩⟩
theorem RV.live {S : Addr → Prop} {h : Heap} {v : Value} {d : D} (q : RV S h v d) : ∀ a, v = .ref a → ∃ o, h.get? a = some o := by
 intro a e
 cases q with
 | tup q _ _ _ => cases e; exact ⟨_, q⟩
 | list _ q _ _ _ => cases e; exact ⟨_, q⟩
 | range q => cases e; exact ⟨_, q⟩
 | exc q _ _ _ _ => cases e; exact ⟨_, q⟩
 | glob v q => exact q a e
 | obj _ _ q _ _ _ => cases e; exact ⟨_, q⟩
 | _ => cases e
theorem RVs.length {S : Addr → Prop} {h : Heap} {vs : List Value} : ∀ {ds : List D}, RVs S h vs ds → vs.length = ds.length := by
 induction vs with
 | nil => intro ds q; cases q; rfl
 | cons v vs ih => intro ds q; cases q with | cons _ r => exact congrArg (· + 1) (ih r)
theorem RVs.append {S : Addr → Prop} {h : Heap} {ws : List Value} {es : List D} (k : RVs S h ws es) {vs : List Value} : ∀ {ds : List D}, RVs S h vs ds → RVs S h (vs ++ ws) (ds ++ es) := by
 induction vs with
 | nil => intro ds q; cases q; exact k
 | cons v vs ih => intro ds q; cases q with | cons q r => exact .cons q (ih r)
theorem RVs.get {S : Addr → Prop} {h : Heap} {vs : List Value} : ∀ {ds : List D}, RVs S h vs ds → ∀ {k : Nat} {d : D}, ds[k]? = some d → ∃ v, vs[k]? = some v ∧ RV S h v d := by
 induction vs with
 | nil => intro ds q k d e; cases q; cases e
 | cons v vs ih =>
  intro ds q k d e
  cases q with
  | cons q r =>
   cases k with
   | zero => cases e; exact ⟨v, rfl, q⟩
   | succ k => exact ih r e
theorem RVs.drop {S : Addr → Prop} {h : Heap} {vs : List Value} : ∀ {ds : List D}, RVs S h vs ds → ∀ (k : Nat), RVs S h (vs.drop k) (ds.drop k) := by
 induction vs with
 | nil => intro ds q k; cases q; rw [List.drop_nil, List.drop_nil]; exact .nil
 | cons v vs ih =>
  intro ds q k
  cases q with
  | cons q r =>
   cases k with
   | zero => exact .cons q r
   | succ k => exact ih r k
theorem RVs.take {S : Addr → Prop} {h : Heap} {vs : List Value} : ∀ {ds : List D}, RVs S h vs ds → ∀ (k : Nat), RVs S h (vs.take k) (ds.take k) := by
 induction vs with
 | nil => intro ds q k; cases q; rw [List.take_nil, List.take_nil]; exact .nil
 | cons v vs ih =>
  intro ds q k
  cases q with
  | cons q r =>
   cases k with
   | zero => exact .nil
   | succ k => exact .cons q (ih r k)
theorem RVs.set {S : Addr → Prop} {h : Heap} {w : Value} {e : D} (k : RV S h w e) {vs : List Value} : ∀ {ds : List D}, RVs S h vs ds → ∀ (i : Nat), RVs S h (vs.set i w) (ds.set i e) := by
 induction vs with
 | nil => intro ds q i; cases q; exact .nil
 | cons v vs ih =>
  intro ds q i
  cases q with
  | cons q r =>
   cases i with
   | zero => exact .cons k r
   | succ i => exact .cons q (ih r i)
theorem RVs.eraseIdx {S : Addr → Prop} {h : Heap} {vs : List Value} : ∀ {ds : List D}, RVs S h vs ds → ∀ (i : Nat), RVs S h (vs.eraseIdx i) (ds.eraseIdx i) := by
 induction vs with
 | nil => intro ds q i; cases q; exact .nil
 | cons v vs ih =>
  intro ds q i
  cases q with
  | cons q r =>
   cases i with
   | zero => exact r
   | succ i => exact .cons q (ih r i)
theorem RVs.reverse {S : Addr → Prop} {h : Heap} {vs : List Value} : ∀ {ds : List D}, RVs S h vs ds → RVs S h vs.reverse ds.reverse := by
 induction vs with
 | nil => intro ds q; cases q; exact .nil
 | cons v vs ih => intro ds q; cases q with | cons q r => rw [List.reverse_cons, List.reverse_cons]; exact RVs.append (.cons q .nil) (ih r)
theorem RVs.mem {S : Addr → Prop} {h : Heap} {vs : List Value} : ∀ {ds : List D}, RVs S h vs ds → ∀ {v : Value}, v ∈ vs → ∃ d, d ∈ ds ∧ RV S h v d := by
 induction vs with
 | nil => intro ds q v m; cases m
 | cons w vs ih =>
  intro ds q v m
  cases q with
  | cons q r =>
   rcases List.mem_cons.mp m with e | m
   ·subst e; exact ⟨_, .head _, q⟩
   ·obtain ⟨d, hd, q⟩ := ih r m; exact ⟨d, .tail _ hd, q⟩
noncomputable def Var (env : Env) (h : Heap) (x : Str) (v : Value) : Prop :=
 (env.kindOf x = some .local ∧ ∃ m, h.Ns env.locals m ∧ m x = some v) ∨
 ((env.kindOf x = some .cell ∨ env.kindOf x = some .free) ∧ ∃ c, env.cells.lookup x = some c ∧ h.IsCell c (some v))
theorem Var.kp {env : Env} {h h' : Heap} (k : Kp h h') {x : Str} {v : Value} (q : Var env h x v) : Var env h' x v := by
 rcases q with ⟨a, m, b, c⟩ | ⟨a, c, b, d⟩
 ·exact .inl ⟨a, m, k.ns b, c⟩
 ·exact .inr ⟨a, c, b, k.cell d⟩
theorem IsCell.inj {h : Heap} {c : Addr} {v v' : Option Value} (a : h.IsCell c v) (b : h.IsCell c v') : v = v' := by
 obtain ⟨o, ho, hd⟩ := a
 obtain ⟨o', ho', hd'⟩ := b
 rw [ho] at ho'; cases ho'
 rw [hd] at hd'; cases hd'; rfl
theorem Var.inj {env : Env} {h : Heap} {x : Str} {v v' : Value} (a : Var env h x v) (b : Var env h x v') : v = v' := by
 rcases a with ⟨k, m, n, e⟩ | ⟨k, c, n, e⟩ <;> rcases b with ⟨k', m', n', e'⟩ | ⟨k', c', n', e'⟩
 ·have := n.agree n' x; rw [e, e'] at this; injection this
 ·rw [k] at k'; rcases k' with q | q <;> cases q
 ·rw [k'] at k; rcases k with q | q <;> cases q
 ·rw [n] at n'; cases n'; have := IsCell.inj e e'; injection this
noncomputable def ZJ (S : Addr → Prop) (h : Heap) (a : Addr) : D → Prop
 | .list ds => ∃ vs n, h.get? a = some { cls := .type "list", data := .seq vs n } ∧ RVs S h vs.toList ds
 | _ => False
theorem ZJ.ext {S S' : Addr → Prop} {h h' : Heap} {a : Addr} {d : D} (x : Ext S h S' h') (k : ∀ o, h.get? a = some o → h'.get? a = some o) (q : ZJ S h a d) : ZJ S' h' a d := by
 unfold ZJ at q ⊢
 split at q
 ·obtain ⟨vs, n, e, r⟩ := q; exact ⟨vs, n, k _ e, r.ext x⟩
 ·exact q
theorem ZJ.cls {S : Addr → Prop} {h : Heap} {a : Addr} {d : D} (q : ZJ S h a d) : ∃ o, h.get? a = some o ∧ o.cls = .type "list" ∧ (∃ vs n, o.data = .seq vs n) := by
 unfold ZJ at q
 split at q
 ·obtain ⟨vs, n, e, _⟩ := q; exact ⟨_, e, rfl, vs, n, rfl⟩
 ·exact q.elim
noncomputable def Wo (k : List Int) : D := .tup (k.map .int)
noncomputable def WY (k : List Int) : Int := reduceHash (Builtin.Tuple.tupleHashOf (k.map hashInt))
noncomputable def Ly (x : List Int × Addr × Value) : DictEntry := ⟨WY x.1, .ref x.2.1, x.2.2⟩
inductive DictAt (S : Addr → Prop) (h : Heap) (a : Addr) (ks : List (List Int)) (ds : List D) : Prop
 | mk (o : Obj) (es : Array DictEntry) (n : Nat) (xs : List (List Int × Addr × Value)) (e : h.get? a = some o) (hc : o.cls = .type "dict" ∧ o.dict = none) (hd : o.data = .dict es n) (he : es.toList = xs.map Ly) (hk : xs.map (·.1) = ks) (nd : ks.Nodup) (hr : ∀ x ∈ xs, RV S h (.ref x.2.1) (Wo x.1)) (rv : RVs S h (xs.map (·.2.2)) ds) (hm : (a == sysModules) = false) : DictAt S h a ks ds
theorem DictAt.map {S S' : Addr → Prop} {h h' : Heap} {a : Addr} {ks : List (List Int)} {ds : List D} (x : Carry S h S' h') (k : ∀ o, h.get? a = some o → ∃ sl, h'.get? a = some { o with slots := sl }) (q : DictAt S h a ks ds) : DictAt S' h' a ks ds := by
 obtain ⟨o, es, n, xs, e, hc, hd, he, hk, nd, hr, rv, hm⟩ := q
 obtain ⟨sl, e'⟩ := k o e
 exact ⟨_, es, n, xs, e', hc, hd, he, hk, nd, fun y hy => (hr y hy).map x, rv.map x, hm⟩
noncomputable def Wx (S : Addr → Prop) (h : Heap) (a : Addr) : D → Prop
 | .dict ks ds => DictAt S h a ks ds
 | d => ZJ S h a d
theorem ZJ.map {S S' : Addr → Prop} {h h' : Heap} {a : Addr} {d : D} (x : Carry S h S' h') (k : ∀ o, h.get? a = some o → JC o → h'.get? a = some o) (q : ZJ S h a d) : ZJ S' h' a d := by
 unfold ZJ at q ⊢
 split at q
 ·obtain ⟨vs, n, e, r⟩ := q; exact ⟨vs, n, k _ e (.seq rfl), r.map x⟩
 ·exact q
theorem ZJ.v {S : Addr → Prop} {h : Heap} {a : Addr} {d : D} (q : ZJ S h a d) : Wx S h a d := by
 cases d <;> first | exact q | exact q.elim
theorem Wx.cases {S : Addr → Prop} {h : Heap} {a : Addr} {d : D} (q : Wx S h a d) : ZJ S h a d ∨ ∃ ks ds, d = .dict ks ds ∧ DictAt S h a ks ds := by
 cases d <;> first | exact .inl q | exact .inr ⟨_, _, rfl, q⟩
theorem Wx.map {S S' : Addr → Prop} {h h' : Heap} {a : Addr} {d : D} (x : Carry S h S' h') (k : ∀ o, h.get? a = some o → (∃ vs n, o.data = .seq vs n) ∨ (∃ es n, o.data = .dict es n) → Kept h' a o) (q : Wx S h a d) : Wx S' h' a d := by
 rcases q.cases with q | ⟨ks, ds, rfl, q⟩
 ·refine (q.map x fun o e hn => ?_).v
  obtain ⟨o', e', _, vs, n, hd⟩ := q.cls
  rw [e] at e'; cases e'
  obtain ⟨sl, e₁, hs⟩ := k o e (.inl ⟨vs, n, hd⟩)
  rw [hs hn] at e₁; exact e₁
 ·refine DictAt.map x (fun o e => ?_) q
  obtain ⟨o', es, n, xs, e', hc, hd, _⟩ := q
  rw [e] at e'; cases e'
  obtain ⟨sl, e₁, _⟩ := k o e (.inr ⟨es, n, hd⟩)
  exact ⟨sl, e₁⟩
theorem Wx.ext {S S' : Addr → Prop} {h h' : Heap} {a : Addr} {d : D} (x : Ext S h S' h') (k : ∀ o, h.get? a = some o → Kept h' a o) (q : Wx S h a d) : Wx S' h' a d := q.map x.carry fun o e _ => k o e
theorem Wx.live {S : Addr → Prop} {h : Heap} {a : Addr} {d : D} (q : Wx S h a d) : ∃ o, h.get? a = some o ∧ ((∃ vs n, o.data = .seq vs n) ∨ ∃ es n, o.data = .dict es n) := by
 rcases q.cases with q | ⟨ks, ds, rfl, q⟩
 ·obtain ⟨o, e, _, vs, n, hd⟩ := q.cls; exact ⟨o, e, .inl ⟨vs, n, hd⟩⟩
 ·obtain ⟨o, es, n, _, e, _, hd, _⟩ := q; exact ⟨o, e, .inr ⟨es, n, hd⟩⟩
inductive OwnVar (h₀ : Heap) (S : Addr → Prop) (h : Heap) (v : Value) (m : Bool) (d : D) : Prop
 | mk (a : Addr) (e : v = .ref a) (n : ¬ S a) (o : Wx S h a d) (w : m = true → h₀.get? a = none) : OwnVar h₀ S h v m d
noncomputable def GG (h₀ : Heap) (S : Addr → Prop) (h : Heap) (v : Value) : T → Prop
 | .sh d => RV S h v d
 | .ow m d => OwnVar h₀ S h v m d
inductive FrameAt (B h : Heap) (env : Env) : Prop
 | mk (p : env.scope.kind ≠ .module) (L : Addr) (o : Obj) (f : env.frame = some L) (b : B.get? L = none) (e : h.get? L = some o) (es : Array DictEntry) (n : Nat) (d : o.data = .dict es n) : FrameAt B h env
noncomputable def FF (B h : Heap) (fs : List Env) : Prop := ∀ env ∈ fs, FrameAt B h env
theorem FF.kp {B h h' : Heap} {fs : List Env} (k : Kp h h') (x : FF B h fs) : FF B h' fs := fun env he => by
 obtain ⟨a, L, o, b, c, d, es, n, e⟩ := x env he
 obtain ⟨sl, e₁, _⟩ := k L o d
 exact ⟨a, L, _, b, c, e₁, es, n, e⟩
theorem FF.fun {B h : Heap} : ∀ {fs : List Env}, FF B h fs → h.FunFrames B fs
 | [], _ => trivial
 | env :: fs, x => by
  obtain ⟨a, L, o, b, c, d, es, n, f⟩ := x env (.head _)
  exact ⟨a, ⟨L, o, b, c, d, fun vs q => by rw [f] at q; cases q⟩, FF.fun fun e he => x e (.tail _ he)⟩
structure Gd where
 prog : Program
 w : World
 B : Heap
 mg : Str → Option Value
 mb : Str → Option Value
 K : W.Frag
 quiet : Bool := true
structure Gd.Ok (G : Gd) : Prop where
 g : G.B.Ns mainGlobals G.mg
 b : G.B.Ns builtinsNs G.mb
 nolimit : G.B.NoLimit
 K : G.K.In G.B
abbrev Gd.M (G : Gd) : Model := model G.prog G.w
structure Cx where
 A : Around
 env : Env
 fs : List Env
 h₀ : Heap
 P : Addr → Prop
noncomputable def Qm (sc : Scope) : List Str := (sc.names.filter fun x => x.2 == .local || x.2 == .cell || x.2 == .free).map (·.1)
abbrev AEnv := List (Option T)
noncomputable def Zr (x : Str) : Bool := x == "_law_e"
noncomputable def DOK (cx : Cx) (sc : Scope) (ρ : AEnv) (h : Heap) : Prop := ∀ (i : Nat) (x : Str) (m : Bool) (ks : List (List Int)) (ds : List D), (Qm sc)[i]? = some x → ρ[i]? = some (some (.ow m (.dict ks ds))) → ¬ Var cx.env h x (.ref cx.env.locals)
theorem DOK.back {cx : Cx} {sc : Scope} {ρ : AEnv} {h h' : Heap} (q : DOK cx sc ρ h) (k : ∀ x v, Var cx.env h' x v → Var cx.env h x v) : DOK cx sc ρ h' := fun i x m ks ds hx hi hv => q i x m ks ds hx hi (k _ _ hv)
theorem DOK.sub {cx : Cx} {sc : Scope} {ρ ρ' : AEnv} {h : Heap} (q : DOK cx sc ρ h) (k : ∀ (i : Nat) m ks ds, ρ'[i]? = some (some (.ow m (.dict ks ds))) → ∃ m' ks' ds', ρ[i]? = some (some (.ow m' (.dict ks' ds')))) : DOK cx sc ρ' h := fun i x m ks ds hx hi => let ⟨m', ks', ds', e⟩ := k i m ks ds hi; q i x m' ks' ds' hx e
theorem Ci {ρ : AEnv} {i j : Nat} {t u : T} (e : (ρ.set i (some t))[j]? = some (some u)) (h : u ≠ t) : ρ[j]? = some (some u) := by
 by_cases hij : i = j
 ·subst hij
  by_cases hl : i < ρ.length
  ·rw [List.getElem?_set_self hl] at e; cases e; exact absurd rfl h
  ·rw [List.getElem?_eq_none (by rw [List.length_set]; exact Nat.le_of_not_lt hl)] at e; cases e
 ·rw [List.getElem?_set_ne hij] at e; exact e
theorem DOK.set {cx : Cx} {sc : Scope} {ρ : AEnv} {h : Heap} {i : Nat} {t : T} (q : DOK cx sc ρ h) (ht : ∀ m ks ds, t ≠ .ow m (.dict ks ds)) : DOK cx sc (ρ.set i (some t)) h := q.sub fun j m ks ds e => ⟨m, ks, ds, Ci e fun q => ht m ks ds q.symm⟩
structure Rel (G : Gd) (cx : Cx) (sc : Scope) (ρ : AEnv) (S : Addr → Prop) (h : Heap) : Prop where
 base : G.B.StaysIn h
 keep : Kp cx.h₀ h
 ff : FF G.B h cx.fs
 ns : ∃ m, h.Ns cx.env.locals m
 cells : ∀ x c, cx.env.cells.lookup x = some c → ∃ v, h.IsCell c v
 sdom : ∀ b, S b → ∃ o, h.get? b = some o
 sok : ∀ b, S b → cx.P b ∨ cx.h₀.get? b = none
 sloc : ¬ S cx.env.locals
 scell : ∀ x c, cx.env.cells.lookup x = some c → ¬ S c
 live : ∀ x a, Zr x = false → Var cx.env h x (.ref a) → ∃ o, h.get? a = some o
 clean : ∀ (i : Nat) (x : Str) (m : Bool) (d : D), (Qm sc)[i]? = some x → ρ[i]? = some (some (.ow m d)) → Zr x = false
 hok : ∀ v, cx.A.handled = some v → ∃ C, RV S h v (.exc C)
 vars : ∀ (i : Nat) (x : Str) (t : T), (Qm sc)[i]? = some x → ρ[i]? = some (some t) → ∃ v, Var cx.env h x v ∧ GG cx.h₀ S h v t
 inj : ∀ (i j : Nat) (x y : Str) (m m' : Bool) (d d' : D) (v : Value), (Qm sc)[i]? = some x → (Qm sc)[j]? = some y → ρ[i]? = some (some (.ow m d)) → ρ[j]? = some (some (.ow m' d')) → Var cx.env h x v → Var cx.env h y v → i = j
 dok : DOK cx sc ρ h
noncomputable def QR (env : Env) (h h' : Heap) : Prop := ∀ x v, Var env h x v → Var env h' x v
theorem QR.refl (env : Env) (h : Heap) : QR env h h := fun _ _ q => q
theorem QR.trans {env : Env} {h₁ h₂ h₃ : Heap} (a : QR env h₁ h₂) (b : QR env h₂ h₃) : QR env h₁ h₃ := fun x v q => b x v (a x v q)
section
variable {G : Gd} {cx : Cx} {sc : Scope} {ρ : AEnv} {S S' : Addr → Prop} {h h' : Heap}
theorem Rel.ext_kp (_ : Rel G cx sc ρ S h) (k : Kp h h') : Ext S h S h' := Ext.of_kp k
theorem GG.ext {h₀ : Heap} {v : Value} {t : T} (x : Ext S h S h') (k : Kp h h') (q : GG h₀ S h v t) : GG h₀ S h' v t := by
 cases t with
 | sh d => exact RV.ext x q
 | ow m d =>
  obtain ⟨a, e, ns, ow, n⟩ := q
  exact ⟨a, e, ns, ow.ext x fun o e' => k a o e', n⟩
theorem Var.of_kp {env : Env} (k : Kp h h') (ns : ∃ m, h.Ns env.locals m) (cl : ∀ x c, env.cells.lookup x = some c → ∃ v, h.IsCell c v) {x : Str} {v : Value} (q : Var env h' x v) : Var env h x v := by
 rcases q with ⟨a, m, b, c⟩ | ⟨a, c, b, d⟩
 ·obtain ⟨m₀, n₀⟩ := ns
  exact .inl ⟨a, m₀, n₀, by rw [(k.ns n₀).agree b x]; exact c⟩
 ·obtain ⟨v₀, i₀⟩ := cl x c b
  exact .inr ⟨a, c, b, by rw [IsCell.inj d (k.cell i₀)]; exact i₀⟩
theorem Rel.kp (r : Rel G cx sc ρ S h) (k : Kp h h') (hb : G.B.StaysIn h') : Rel G cx sc ρ S h' where
 base := hb
 keep := r.keep.trans k
 ff := r.ff.kp k
 ns := let ⟨m, n⟩ := r.ns; ⟨m, k.ns n⟩
 cells := fun x c e => let ⟨v, n⟩ := r.cells x c e; ⟨v, k.cell n⟩
 sdom := fun b q => let ⟨_, e⟩ := r.sdom b q; k.dom e
 sok := r.sok
 sloc := r.sloc
 scell := r.scell
 live := fun x a hd q => let ⟨_, e⟩ := r.live x a hd (Var.of_kp k r.ns r.cells q); k.dom e
 clean := r.clean
 hok := fun v q => let ⟨C, e⟩ := r.hok v q; ⟨C, e.ext (r.ext_kp k)⟩
 vars := fun i x t hx ht => by
  obtain ⟨v, hv, tv⟩ := r.vars i x t hx ht
  exact ⟨v, hv.kp k, tv.ext (r.ext_kp k) k⟩
 inj := fun i j x y m m' d d' v hx hy hi hj a b => r.inj i j x y m m' d d' v hx hy hi hj (Var.of_kp k r.ns r.cells a) (Var.of_kp k r.ns r.cells b)
 dok := r.dok.back fun _ _ q => Var.of_kp k r.ns r.cells q
theorem Rel.same (r : Rel G cx sc ρ S h) (k : Kp h h') : QR cx.env h h' := fun _ _ q => q.kp k
theorem Rel.keeps (r : Rel G cx sc ρ S h) (k : ∀ b o, h.get? b = some o → h'.get? b = some o) : Rel G cx sc ρ S h' := r.kp (.of_keeps k) fun b o e => k b o (r.base b o e)
theorem Rel.notCell (r : Rel G cx sc ρ S h) {a : Addr} {o : Obj} (e : h.get? a = some o) (hd : ∀ v, o.data ≠ .cell v) : ∀ x c, cx.env.cells.lookup x = some c → c ≠ a := by
 rintro x c q rfl
 obtain ⟨v, o', e', hd'⟩ := r.cells x c q
 rw [e] at e'; cases e'; exact hd v hd'
theorem Rel.grow (r : Rel G cx sc ρ S h) {a : Addr} {o : Obj} (e : h.get? a = some o) (hn : cx.h₀.get? a = none) (hl : a ≠ cx.env.locals) (hcl : ∀ x c, cx.env.cells.lookup x = some c → c ≠ a) (hv : ∀ x, Zr x = false → ¬ Var cx.env h x (.ref a)) : Rel G cx sc ρ (fun b => S b ∨ b = a) h where
 base := r.base
 keep := r.keep
 ff := r.ff
 ns := r.ns
 cells := r.cells
 sdom := fun b q => q.elim (r.sdom b) fun q => ⟨o, by rw [q]; exact e⟩
 sok := fun b q => q.elim (r.sok b) fun q => .inr (by rw [q]; exact hn)
 sloc := fun q => q.elim r.sloc fun q => hl q.symm
 scell := fun x c e q => q.elim (r.scell x c e) (hcl x c e)
 live := r.live
 clean := r.clean
 hok := fun v q => let ⟨C, e⟩ := r.hok v q; ⟨C, e.ext (Ext.grow fun _ q => .inl q)⟩
 vars := fun i x t hx ht => by
  obtain ⟨v, hv', tv⟩ := r.vars i x t hx ht
  refine ⟨v, hv', ?_⟩
  cases t with
  | sh d => exact RV.ext (Ext.grow fun _ q => .inl q) tv
  | ow m d =>
   obtain ⟨b, rfl, ns, ow, n⟩ := tv
   exact ⟨b, rfl, fun q => q.elim ns fun q => hv x (r.clean i x m d hx ht) (q ▸ hv'), ow.ext (Ext.grow fun _ q => .inl q) (fun o e => ⟨o.slots, e, fun _ => rfl⟩), n⟩
 inj := r.inj
 dok := r.dok
end
inductive Res (α : Type) where
 | ok (a : α) (ρ : AEnv)
 | exc (C : Addr) (ρ : AEnv)
 | stuck
noncomputable def Res.bind {α β : Type} (r : Res α) (g : α → AEnv → Res β) : Res β := match r with
 | .ok a ρ => g a ρ
 | .exc C ρ => .exc C ρ
 | .stuck => .stuck
noncomputable def ob {α β : Type} (o : Option α) (k : α → Res β) : Res β := o.elim .stuck k
inductive Fly (h h' : Heap) (e C : Addr) : Prop
 | mk (n : h.get? e = none) (oe : Obj) (vs : Array Value) (a : h'.get? e = some oe) (b : oe.cls = .ref C) (b' : oe.dict = none) (c : oe.data = .fields vs) (d : vs[2]? = some .none)
  (k : vs[1]? = some .none ∨ ∃ T oT ts, vs[1]? = some (.ref T) ∧ T ≠ e ∧ h.get? T = none ∧ h'.get? T = some oT ∧ oT.cls = .type "traceback" ∧ oT.data = .fields ts ∧ 3 < ts.size) : Fly h h' e C
theorem Fly.back {S S' : Addr → Prop} {h₀ h h' : Heap} {e C : Addr} (x : Ext S h₀ S' h) (q : Fly h h' e C) : Fly h₀ h' e C := by
 obtain ⟨n, oe, vs, a, b, b', c, d, k⟩ := q
 refine ⟨x.none n, oe, vs, a, b, b', c, d, k.imp id ?_⟩
 rintro ⟨T, oT, ts, k1, k2, k3, k4⟩
 exact ⟨T, oT, ts, k1, k2, x.none k3, k4⟩
noncomputable def Out (G : Gd) (cx : Cx) (sc : Scope) (same : Bool) {α β : Type} (S : Addr → Prop) (s : Shared) (J : (Addr → Prop) → Heap → α → β → Prop) (Q : α → Shared → Prop) (E : Value → Shared → Prop) : Res β → Prop
 | .ok b ρ => ∀ a h' tk S', Rel G cx sc ρ S' h' → J S' h' a b → Ext S s.heap S' h' → (same = true → QR cx.env s.heap h') → Q a { s with heap := h', toks := tk }
 | .exc C ρ => ∀ e h' tk S', Rel G cx sc ρ S' h' → Fly s.heap h' e C → Ext S s.heap S' h' → E (.ref e) { s with heap := h', toks := tk }
 | .stuck => False
noncomputable def QD (G : Gd) (cx : Cx) (sc : Scope) (same : Bool) {α β : Type} (m : Sem α) (S : Addr → Prop) (s : Shared) (J : (Addr → Prop) → Heap → α → β → Prop) (r : Res β) : Prop :=
 ∀ Q E, Out G cx sc same S s J Q E r → wpAny G.M cx.A m Q E s
section
variable {G : Gd} {cx : Cx} {sc : Scope} {same : Bool} {α β γ δ : Type} {S : Addr → Prop} {s : Shared}
theorem QD.bind {m : Sem α} {k : α → Sem γ} {J : (Addr → Prop) → Heap → α → β → Prop} {J' : (Addr → Prop) → Heap → γ → δ → Prop} {r : Res β} {g : β → AEnv → Res δ}
  (h1 : QD G cx sc same m S s J r)
  (h2 : ∀ b ρ' a h' tk S', r = .ok b ρ' → Rel G cx sc ρ' S' h' → J S' h' a b → Ext S s.heap S' h' → (same = true → QR cx.env s.heap h') → QD G cx sc same (k a) S' { s with heap := h', toks := tk } J' (g b ρ')) :
  QD G cx sc same (m >>= k) S s J' (r.bind g) := by
 intro Q E out
 refine wpAny_bind (h1 _ _ ?_)
 cases r with
 | stuck => exact out
 | exc C ρ => intro e h' tk S' rel fly x; exact out e h' tk S' rel fly x
 | ok b ρ =>
  intro a h' tk S' rel j x v
  refine h2 b ρ a h' tk S' rfl rel j x v _ _ ?_
  show Out G cx sc same S' _ J' Q E (g b ρ)
  cases hg : g b ρ with
  | stuck => rw [Res.bind, hg] at out; exact out
  | exc C ρ' =>
   rw [Res.bind, hg] at out
   intro e h₂ tk₂ S₂ rel₂ fly₂ x₂
   exact out e h₂ tk₂ S₂ rel₂ (fly₂.back x) (x.trans x₂)
  | ok c ρ' =>
   rw [Res.bind, hg] at out
   intro a₂ h₂ tk₂ S₂ rel₂ j₂ x₂ v₂
   exact out a₂ h₂ tk₂ S₂ rel₂ j₂ (x.trans x₂) fun q => (v q).trans (v₂ q)
theorem QD.pure {a : α} {b : β} {ρ : AEnv} {J : (Addr → Prop) → Heap → α → β → Prop} (rel : Rel G cx sc ρ S s.heap) (j : J S s.heap a b) : QD G cx sc same (pure a) S s J (.ok b ρ) :=
 fun _ _ out => wpAny_pure (out a s.heap s.toks S rel j (Ext.refl ..) fun _ => QR.refl _ _)
theorem QD.loose {m : Sem α} {J : (Addr → Prop) → Heap → α → β → Prop} {r : Res β} (h : QD G cx sc true m S s J r) : QD G cx sc same m S s J r := by
 intro Q E out
 refine h Q E ?_
 cases r with
 | stuck => exact out
 | exc C ρ => exact out
 | ok b ρ => intro a h' tk S' rel j x v; exact out a h' tk S' rel j x fun _ => v rfl
theorem QD.standAt {k : Sem α} {pos : Pos} {J : (Addr → Prop) → Heap → α → β → Prop} {r : Res β} (h : QD G cx sc same k S s J r) : QD G cx sc same (do standAt pos; k) S s J r :=
 fun Q E out => wpAny_bind (wpAny_standAt (h Q E out))
theorem QD.holding {k : Sem α} {vs : List Value} {J : (Addr → Prop) → Heap → α → β → Prop} {r : Res β} (h : QD G cx sc same k S s J r) : QD G cx sc same (holding vs k) S s J r :=
 fun Q E out => wpAny_holding (h Q E out)
end
section
variable {G : Gd} {cx : Cx} {sc : Scope} {same same₁ : Bool} {α β γ δ : Type} {S S₁ : Addr → Prop} {s : Shared} {h₁ : Heap} {t₁ : Nat} {Q : γ → Shared → Prop} {E : Value → Shared → Prop}
theorem Out.step {J : (Addr → Prop) → Heap → α → β → Prop} {J' : (Addr → Prop) → Heap → γ → δ → Prop} {Q₁ : α → Shared → Prop} {r : Res β} {g : β → AEnv → Res δ} (out : Out G cx sc same S s J' Q E (r.bind g)) (x : Ext S s.heap S₁ h₁)
  (H : ∀ b ρ, Out G cx sc same S s J' Q E (g b ρ) → ∀ a h' tk S', Rel G cx sc ρ S' h' → J S' h' a b → Ext S₁ h₁ S' h' → (same₁ = true → QR cx.env h₁ h') → Q₁ a { s with heap := h', toks := tk }) :
  Out G cx sc same₁ S₁ { s with heap := h₁, toks := t₁ } J Q₁ E r := by
 cases r with
 | stuck => exact out
 | exc C ρ => exact fun e h' tk S' r' f' x' => out e h' tk S' r' (f'.back x) (x.trans x')
 | ok b ρ => exact H b ρ out
theorem Out.step0 {J : (Addr → Prop) → Heap → α → β → Prop} {J' : (Addr → Prop) → Heap → γ → δ → Prop} {Q₁ : α → Shared → Prop} {r : Res β} {g : β → AEnv → Res δ} (out : Out G cx sc same S s J' Q E (r.bind g))
  (H : ∀ b ρ, Out G cx sc same S s J' Q E (g b ρ) → ∀ a h' tk S', Rel G cx sc ρ S' h' → J S' h' a b → Ext S s.heap S' h' → (same₁ = true → QR cx.env s.heap h') → Q₁ a { s with heap := h', toks := tk }) : Out G cx sc same₁ S s J Q₁ E r := by
 cases r with
 | stuck => exact out
 | exc C ρ => exact out
 | ok b ρ => exact H b ρ out
theorem Out.step0S {J' : (Addr → Prop) → Heap → γ → δ → Prop} {Q₁ : Value → Shared → Prop} {r : Res T} {g : T → AEnv → Res δ} (out : Out G cx sc same S s J' Q E (r.bind g))
  (H : ∀ b ρ, Out G cx sc same S s J' Q E (g b ρ) → ∀ a h' tk S', Rel G cx sc ρ S' h' → RV S' h' a b.val → Ext S s.heap S' h' → (same₁ = true → QR cx.env s.heap h') → Q₁ a { s with heap := h', toks := tk }) :
  Out G cx sc same₁ S s (fun S' h' v d => RV S' h' v d) Q₁ E (r.bind fun t ρ => .ok t.val ρ) := by
 cases r with
 | stuck => exact out
 | exc C ρ => exact out
 | ok b ρ => exact H b ρ out
theorem Out.ob {J : (Addr → Prop) → Heap → γ → δ → Prop} {o : Option α} {k : α → Res δ} (out : Out G cx sc same S s J Q E (ob o k)) : ∃ a, o = some a ∧ Out G cx sc same S s J Q E (k a) := by
 cases o with
 | none => exact out.elim
 | some a => exact ⟨a, rfl, out⟩
theorem QD.ob {J : (Addr → Prop) → Heap → γ → δ → Prop} {m : Sem γ} {o : Option α} {k : α → Res δ} (h : ∀ a, o = some a → QD G cx sc same m S s J (k a)) : QD G cx sc same m S s J (ob o k) := fun Q E out => let ⟨a, e, out⟩ := out.ob; h a e Q E out
theorem Out.when {J : (Addr → Prop) → Heap → γ → δ → Prop} {c : Prop} [Decidable c] {r : Res δ} (out : Out G cx sc same S s J Q E (if c then r else .stuck)) : c ∧ Out G cx sc same S s J Q E r := by
 by_cases h : c
 ·rw [if_pos h] at out; exact ⟨h, out⟩
 ·rw [if_neg h] at out; exact out.elim
theorem Lg {o : Option D} {i : Int} (h : o.bind asI = some i) : o = some (.int i) := by
 obtain ⟨d, e, h⟩ := Option.bind_eq_some_iff.mp h
 rw [e, JD h]
theorem Out.lift {J : (Addr → Prop) → Heap → γ → δ → Prop} {r : Res δ} (out : Out G cx sc same S s J Q E r) (x : Ext S s.heap S₁ h₁) (v : same = true → QR cx.env s.heap h₁) : Out G cx sc same S₁ { s with heap := h₁, toks := t₁ } J Q E r := by
 cases r with
 | stuck => exact out
 | exc C ρ => exact fun e h' tk S' r' f' x' => out e h' tk S' r' (f'.back x) (x.trans x')
 | ok b ρ => exact fun a h' tk S' r' j' x' v' => out a h' tk S' r' j' (x.trans x') fun q => (v q).trans (v' q)
end
inductive Fresh (cx : Cx) (S : Addr → Prop) (h : Heap) (v : Value) (d : D) : Prop
 | mk (a : Addr) (e : v = .ref a) (n : ¬ S a) (o : ZJ S h a d) (k : cx.h₀.get? a = none) (nv : ∀ x, Zr x = false → ¬ Var cx.env h x (.ref a)) : Fresh cx S h v d
noncomputable def Ul (cx : Cx) (S : Addr → Prop) (h : Heap) (v : Value) : T → Prop
 | .sh d => RV S h v d
 | .ow _ d => Fresh cx S h v d
noncomputable def TSt (cx : Cx) (S : Addr → Prop) (h : Heap) (v : Value) : T → Prop
 | .sh d => RV S h v d
 | .ow _ d => ∃ a, v = .ref a ∧ ¬ S a ∧ Wx S h a d ∧ cx.h₀.get? a = none ∧ (∀ x, Zr x = false → ¬ Var cx.env h x (.ref a)) ∧ ((∃ ks ds, d = .dict ks ds) → a ≠ cx.env.locals)
theorem Ul.st {cx : Cx} {S : Addr → Prop} {h : Heap} {v : Value} {t : T} (q : Ul cx S h v t) : TSt cx S h v t := by
 cases t with
 | sh d => exact q
 | ow m d =>
  obtain ⟨a, e, n, o, k, nv⟩ := q
  refine ⟨a, e, n, o.v, k, nv, ?_⟩
  rintro ⟨ks, ds, rfl⟩
  exact o.elim
theorem Rel.drop {G : Gd} {cx : Cx} {sc : Scope} {ρ : AEnv} {S : Addr → Prop} {h : Heap} {v : Value} {t : T} (r : Rel G cx sc ρ S h) (q : Ul cx S h v t) :
  ∃ S', Rel G cx sc ρ S' h ∧ RV S' h v t.val ∧ Ext S h S' h := by
 cases t with
 | sh d => exact ⟨S, r, q, .refl ..⟩
 | ow m d =>
  obtain ⟨a, rfl, ns, ow, n, nv⟩ := q
  obtain ⟨o, ho, hc, vs, k, hd⟩ := ow.cls
  have hl : a ≠ cx.env.locals := by
   rintro rfl
   obtain ⟨m', o', es, ep, e', hd', _⟩ := r.ns
   rw [ho] at e'; cases e'; rw [hd] at hd'; cases hd'
  refine ⟨_, r.grow ho n hl (r.notCell ho (by rw [hd]; intro v q; cases q)) nv, ?_, Ext.grow fun _ q => .inl q⟩
  unfold ZJ at ow
  split at ow
  ·obtain ⟨vs', n', e', rv⟩ := ow
   exact .list (.inr rfl) e' ⟨rfl, rfl, rfl⟩ rfl (rv.ext (Ext.grow fun _ q => .inl q))
  ·exact ow.elim
noncomputable def Dv (A : Around) (k : Nat) : Prop := A.depth + k ≤ 900 ∧ A.units + 8 * k ≤ 9000
theorem Dv.mono {A : Around} {k k' : Nat} (h : Dv A k) (hk : k' ≤ k) : Dv A k' := ⟨by have := h.1; lia, by have := h.2; lia⟩
structure CxOk (G : Gd) (cx : Cx) (sc : Scope) (k : Nat) : Prop where
 hsc : cx.env.scope = sc
 hk : sc.kind = .function
 hg : cx.env.globals = mainGlobals
 hb : cx.env.builtins = builtinsNs
 fr : cx.A.frames = some cx.fs
 top : ∃ env outer, cx.fs = env :: outer ∧ cx.env.frame = env.frame
 hd : G.quiet = true → cx.A.handled = none
 room : Dv cx.A k
 nodup : (Qm sc).Nodup
theorem CxOk.mono {G : Gd} {cx : Cx} {sc : Scope} {k k' : Nat} (h : CxOk G cx sc k) (hk : k' ≤ k) : CxOk G cx sc k' := { h with room := h.room.mono hk }
noncomputable def Sim (G : Gd) (k : Nat) (sc : Scope) (e : Expr) (f : AEnv → Res T) : Prop :=
 ∀ cx, CxOk G cx sc k → ∀ ρ S s, Rel G cx sc ρ S s.heap → QD G cx sc true (eval e cx.env) S s (fun S' h' v t => Ul cx S' h' v t) (f ρ)
end Mine
end

section
set_option Elab.async false
set_option maxRecDepth 100000
namespace Mine
open PySem
inductive RB (S : Addr → Prop) (h : Heap) : Value → D → Prop
 | of {v : Value} {d : D} : RV S h v d → RB S h v d
 | own {a : Addr} {d : D} : ZJ S h a d → RB S h (.ref a) d
inductive SeqV (c : String) (S : Addr → Prop) (h : Heap) (v : Value) (ds : List D) : Prop
 | mk (a : Addr) (o : Obj) (vs : Array Value) (n : Nat) (e : v = .ref a) (h1 : h.get? a = some o) (h2 : o.cls = .type c) (h3 : o.data = .seq vs n) (q : RVs S h vs.toList ds) : SeqV c S h v ds
theorem RB.list {S : Addr → Prop} {h : Heap} {v : Value} {ds : List D} (q : RB S h v (.list ds)) : SeqV "list" S h v ds := by
 cases q with
 | of q => cases q with | list _ e hc hd r => exact ⟨_, _, _, _, rfl, e, hc.1, hd, r⟩
 | own q => obtain ⟨vs, n, e, r⟩ := q; exact ⟨_, _, _, _, rfl, e, rfl, rfl, r⟩
theorem RB.bare {S : Addr → Prop} {h : Heap} {a : Addr} {ds : List D} {o : Obj} (q : RB S h (.ref a) (.list ds)) (e : h.get? a = some o) : o.dict = none := by
 cases q with
 | of q =>
  cases q with
  | list _ e' hc hd r => rw [e] at e'; cases e'; exact hc.2.1
 | own q => obtain ⟨vs, n, e', r⟩ := q; rw [e] at e'; cases e'; rfl
theorem RB.rv {S : Addr → Prop} {h : Heap} {v : Value} {d : D} (q : RB S h v d) (hd : ∀ ds, d ≠ .list ds) : RV S h v d := by
 cases q with
 | of q => exact q
 | own q =>
  unfold ZJ at q
  split at q
  ·exact absurd rfl (hd _)
  ·exact q.elim
theorem RB.any {S : Addr → Prop} {h : Heap} {v : Value} {d : D} (q : RB S h v d) : RV (fun _ => True) h v d := by
 cases q with
 | of q => exact q.ext (Ext.grow fun _ _ => trivial)
 | own q =>
  unfold ZJ at q
  split at q
  ·obtain ⟨vs, n, e, r⟩ := q; exact .list trivial e ⟨rfl, rfl, rfl⟩ rfl (r.ext (Ext.grow fun _ _ => trivial))
  ·exact q.elim
inductive Bv where
 | val (d : D)
 | var (i : Nat)
noncomputable def Bv.get (ρ : AEnv) : Bv → Option D
 | .val d => some d
 | .var i => match ρ[i]? with
  | some (some t) => t.get
  | _ => none
noncomputable def Z5 (cx : Cx) (sc : Scope) (S : Addr → Prop) (h : Heap) (v : Value) : Bv → Prop
 | .val d => RV S h v d
 | .var i => ∃ x, (Qm sc)[i]? = some x ∧ Var cx.env h x v
section
variable {G : Gd} {cx : Cx} {sc : Scope} {ρ : AEnv} {S S' : Addr → Prop} {h h' : Heap} {v : Value} {b : Bv} {d : D}
theorem Z5.ext (q : Z5 cx sc S h v b) (x : Ext S h S' h') (k : QR cx.env h h') : Z5 cx sc S' h' v b := by
 cases b with
 | val d => exact RV.ext x q
 | var i => obtain ⟨y, hy, hv⟩ := q; exact ⟨y, hy, k y v hv⟩
set_option tactic.hygienic true in
theorem Z5.rb (q : Z5 cx sc S h v b) (r : Rel G cx sc ρ S h) (e : b.get ρ = some d) : RB S h v d := by
 cases b with
 | val d' => cases e; exact .of q
 | var i =>
  obtain ⟨y, hy, hv⟩ := q
  simp only [Bv.get] at e
  split at e
  ·rename_i t ht
   obtain ⟨w, hw, tv⟩ := r.vars i y t hy ht
   rw [Var.inj hv hw]
   cases t with
   | sh d => cases e; exact .of tv
   | ow m d =>
    obtain ⟨a, rfl, _, ow, _⟩ := tv
    cases d with
    | list ds => cases e; exact .own ow
    | _ => cases e
  ·cases e
theorem Ze {x : Str} (ok : CxOk G cx sc 0) (hv : Var cx.env h x v) (hn : (x == ("__classdict__" : Str)) = false) {M : Model} {A : Around} {s : Shared} (hs : s.heap = h) {Q : Value → Shared → Prop} {E : Value → Shared → Prop} (hQ : Q v s) :
  wpAny M A (loadName cx.env x) Q E s := by
 subst hs
 have hk : cx.env.scope.kind = .function := by rw [ok.hsc]; exact ok.hk
 rcases hv with ⟨a, m, b, c⟩ | ⟨a, c, b, d⟩
 ·exact wpAny_loadName_local hk a b c hQ
 ·rcases a with a | a
  ·exact wpAny_loadName_cell hk a b d hQ
  ·exact wpAny_loadName_free hk a b d hQ hn
end
noncomputable def Qh (G : Gd) (k : Nat) (sc : Scope) (e : Expr) (f : AEnv → Res Bv) : Prop :=
 ∀ cx, CxOk G cx sc k → ∀ ρ S s, Rel G cx sc ρ S s.heap → QD G cx sc true (eval e cx.env) S s (fun S' h' v b => Z5 cx sc S' h' v b) (f ρ)
noncomputable def Qc (f : AEnv → Res T) : AEnv → Res Bv := fun ρ => (f ρ).bind fun t ρ' => .ok (.val t.val) ρ'
theorem Qh.of {G : Gd} {k : Nat} {sc : Scope} {e : Expr} {f : AEnv → Res T} (h : Sim G k sc e f) : Qh G k sc e (Qc f) := by
 intro cx ok ρ S s r Q E out
 refine h cx ok ρ S s r Q E ?_
 refine out.step0 fun t ρ' out v h' tk S' rel j x vs => ?_
 obtain ⟨S₂, rel₂, rv, x₂⟩ := rel.drop j
 exact out v h' tk S₂ rel₂ rv (x.trans x₂) vs
noncomputable def eOp (i : Nat) : AEnv → Res Bv := fun ρ => match ρ[i]? with
 | some (some _) => .ok (.var i) ρ
 | _ => .stuck
set_option tactic.hygienic true in
theorem GI {G : Gd} {k : Nat} {sc : Scope} {x : Str} {pos : Pos} {i : Nat} (hx : (Qm sc)[i]? = some x) (hd : (x == ("__debug__" : Str)) = false) (hn : (x == ("__classdict__" : Str)) = false) :
  Qh G k sc (.Name x pos) (eOp i) := by
 intro cx ok ρ S s r Q E out
 unfold eOp at out
 split at out
 ·rename_i t ht
  obtain ⟨v, hv, tv⟩ := r.vars i x t hx ht
  exact wpAny_Name (Ze (ok.mono (Nat.zero_le _)) hv hn rfl (out v s.heap s.toks S r ⟨x, hx, hv⟩ (Ext.refl ..) fun _ => QR.refl _ _)) hd
 ·exact out.elim
theorem Rel.dropVar {G : Gd} {cx : Cx} {sc : Scope} {ρ : AEnv} {S : Addr → Prop} {h : Heap} {i : Nat} {x : Str} {ds : List D} {v : Value} (r : Rel G cx sc ρ S h) (hx : (Qm sc)[i]? = some x) (ht : ρ[i]? = some (some (.ow true (.list ds)))) (hv : Var cx.env h x v) :
  ∃ S', Rel G cx sc (ρ.set i (some (.sh (.list ds)))) S' h ∧ RV S' h v (.list ds) ∧ Ext S h S' h := by
 obtain ⟨w, hw, a, rfl, ns, ow, n⟩ := r.vars i x _ hx ht
 rw [Var.inj hv hw]
 have ow : ZJ S h a (.list ds) := ow
 generalize hdd : D.list ds = d at *
 obtain ⟨o, ho, hc, vs, nn, hd⟩ := ow.cls
 have hl : a ≠ cx.env.locals := by
  rintro rfl
  obtain ⟨m', o', es, ep, e', hd', _⟩ := r.ns
  rw [ho] at e'; cases e'; rw [hd] at hd'; cases hd'
 have rv : RV (fun b => S b ∨ b = a) h (.ref a) d := by
  unfold ZJ at ow
  split at ow
  ·obtain ⟨vs', n', e', rv⟩ := ow
   exact .list (.inr rfl) e' ⟨rfl, rfl, rfl⟩ rfl (rv.ext (Ext.grow fun _ q => .inl q))
  ·exact ow.elim
 refine ⟨fun b => S b ∨ b = a, ⟨r.base, r.keep, r.ff, r.ns, r.cells, fun b q => q.elim (r.sdom b) fun q => ⟨o, by rw [q]; exact ho⟩, fun b q => q.elim (r.sok b) fun q => .inr (by rw [q]; exact n rfl),
  fun q => q.elim r.sloc fun q => hl q.symm, fun x c e q => q.elim (r.scell x c e) (r.notCell ho (by rw [hd]; intro v q; cases q) x c e), r.live, fun j y m e hy hj => ?_, fun v q => let ⟨C, e⟩ := r.hok v q; ⟨C, e.ext (Ext.grow fun _ q => .inl q)⟩, fun j y t hy htj => ?_, fun j k y z m m' e e' u hy hz hj hk a b => ?_, r.dok.set fun _ _ _ q => by cases q⟩, rv, Ext.grow fun _ q => .inl q⟩
 ·have hji : i ≠ j := by rintro rfl; rw [List.getElem?_set_self (by rw [List.getElem?_eq_some_iff] at ht; exact ht.1)] at hj; cases hj
  rw [List.getElem?_set_ne hji] at hj
  exact r.clean j y m e hy hj
 ·by_cases hij : i = j
  ·subst hij
   have : (ρ.set i (some (T.sh d)))[i]? = some (some (T.sh d)) := by
    rw [List.getElem?_set_self]; rw [List.getElem?_eq_some_iff] at ht; exact ht.1
   rw [this] at htj; cases htj
   rw [hx] at hy; cases hy
   exact ⟨_, hw, rv⟩
  ·rw [List.getElem?_set_ne hij] at htj
   obtain ⟨u, hu, tv⟩ := r.vars j y t hy htj
   refine ⟨u, hu, ?_⟩
   cases t with
   | sh e => exact RV.ext (Ext.grow fun _ q => .inl q) tv
   | ow m e =>
    obtain ⟨b, rfl, nb, owb, n'⟩ := tv
    refine ⟨b, rfl, fun q => q.elim nb fun q => ?_, owb.ext (Ext.grow fun _ q => .inl q) (fun o e => ⟨o.slots, e, fun _ => rfl⟩), n'⟩
    subst q
    exact hij (r.inj i j x y true m d e (.ref b) hx hy ht htj hw hu)
 ·have hji : i ≠ j := by rintro rfl; rw [List.getElem?_set_self (by rw [List.getElem?_eq_some_iff] at ht; exact ht.1)] at hj; cases hj
  have hki : i ≠ k := by rintro rfl; rw [List.getElem?_set_self (by rw [List.getElem?_eq_some_iff] at ht; exact ht.1)] at hk; cases hk
  rw [List.getElem?_set_ne hji] at hj
  rw [List.getElem?_set_ne hki] at hk
  exact r.inj j k y z m m' e e' u hy hz hj hk a b
noncomputable def Xe (i : Nat) : AEnv → Res T := fun ρ => match ρ[i]? with
 | some (some (.sh d)) => .ok (.sh d) ρ
 | some (some (.ow true (.list ds))) => .ok (.sh (.list ds)) (ρ.set i (some (.sh (.list ds))))
 | _ => .stuck
set_option tactic.hygienic true in
theorem G6 {G : Gd} {k : Nat} {sc : Scope} {x : Str} {pos : Pos} {i : Nat} (hx : (Qm sc)[i]? = some x) (hd : (x == ("__debug__" : Str)) = false) (hn : (x == ("__classdict__" : Str)) = false) :
  Sim G k sc (.Name x pos) (Xe i) := by
 intro cx ok ρ S s r Q E out
 unfold Xe at out
 split at out
 ·rename_i d ht
  obtain ⟨v, hv, tv⟩ := r.vars i x _ hx ht
  exact wpAny_Name (Ze (ok.mono (Nat.zero_le _)) hv hn rfl (out v s.heap s.toks S r tv (Ext.refl ..) fun _ => QR.refl _ _)) hd
 ·rename_i d ht
  obtain ⟨v, hv, tv⟩ := r.vars i x _ hx ht
  obtain ⟨S', r', rv, x'⟩ := r.dropVar hx ht hv
  exact wpAny_Name (Ze (ok.mono (Nat.zero_le _)) hv hn rfl (out v s.heap s.toks S' r' rv x' fun _ => QR.refl _ _)) hd
 ·exact out.elim
noncomputable def Qd (d : D) : AEnv → Res T := fun ρ => .ok (.sh d) ρ
section
variable {G : Gd} {k : Nat} {sc : Scope} {pos : Pos} {kk : Nat}
theorem Zf : Sim G k sc (.Constant .none kk pos) (Qd .none) := fun _ _ _ _ s r _ _ out => wpAny_Constant_none (out _ s.heap s.toks _ r .none (Ext.refl ..) fun _ => QR.refl _ _)
theorem Yj {b : Bool} : Sim G k sc (.Constant (.bool b) kk pos) (Qd (.bool b)) := fun _ _ _ _ s r _ _ out => wpAny_Constant_bool (out _ s.heap s.toks _ r (.bool b) (Ext.refl ..) fun _ => QR.refl _ _)
theorem Ql {i : Int} : Sim G k sc (.Constant (.int i) kk pos) (Qd (.int i)) := fun _ _ _ _ s r _ _ out => wpAny_Constant_int (out _ s.heap _ _ r (.int i _) (Ext.refl ..) fun _ => QR.refl _ _)
theorem X9 {x : Str} : Sim G k sc (.Constant (.str x) kk pos) (Qd (.str x)) := fun _ _ _ _ s r _ _ out => wpAny_Constant_str (out _ s.heap _ _ r (.str x _) (Ext.refl ..) fun _ => QR.refl _ _)
theorem V2 {x : Str} {v : Value} (hG : G.Ok) (hx : sc.names.lookup x = some .globalImplicit) (hv : G.mg x = some v) (hl : ∀ a, v = .ref a → ∃ o, G.B.get? a = some o) (hd : (x == ("__debug__" : Str)) = false) : Sim G k sc (.Name x pos) (Qd (.glob v)) := by
 intro cx ok ρ S s r Q E out
 refine Calls.Name_function_global (by rw [ok.hsc]; exact ok.hk) (by unfold Env.kindOf; rw [ok.hsc]; exact hx) (Calls.loadGlobal_global (mg := G.mg) (by rw [ok.hg]; exact hG.g.keeps r.base) hv ?_) hd
 exact out _ s.heap s.toks _ r (.glob v fun a e => let ⟨o, e'⟩ := hl a e; ⟨o, r.base _ _ e'⟩) (Ext.refl ..) fun _ => QR.refl _ _
theorem Eh {x : Str} {v : Value} (hG : G.Ok) (hx : sc.names.lookup x = some .globalImplicit) (hm : G.mg x = none) (hv : G.mb x = some v) (hl : ∀ a, v ≠ .ref a) (hd : (x == ("__debug__" : Str)) = false) : Sim G k sc (.Name x pos) (Qd (.glob v)) := by
 intro cx ok ρ S s r Q E out
 refine Calls.Name_function_global (by rw [ok.hsc]; exact ok.hk) (by unfold Env.kindOf; rw [ok.hsc]; exact hx) (Calls.loadGlobal_builtin (mg := G.mg) (mb := G.mb) (by rw [ok.hg]; exact hG.g.keeps r.base) hm (by rw [ok.hb]; exact hG.b.keeps r.base) hv ?_) hd
 exact out _ s.heap s.toks _ r (.glob v fun a e => (hl a e).elim) (Ext.refl ..) fun _ => QR.refl _ _
end
end Mine
end

section
set_option Elab.async false
set_option maxRecDepth 100000
namespace Mine
open PySem
noncomputable def Op1 (G : Gd) (m : Value → Sem Value) (F : D → Option T) : Prop :=
 ∀ cx sc, CxOk G cx sc 0 → ∀ ρ S s v x t, Rel G cx sc ρ S s.heap → RB S s.heap v x → F x = some t → QD G cx sc true (m v) S s (fun S' h' v t => Ul cx S' h' v t) (.ok t ρ)
noncomputable def Op2 (G : Gd) (m : Value → Value → Sem Value) (F : D → D → Option T) : Prop :=
 ∀ cx sc, CxOk G cx sc 0 → ∀ ρ S s v w x y t, Rel G cx sc ρ S s.heap → RB S s.heap v x → RB S s.heap w y → F x y = some t → QD G cx sc true (m v w) S s (fun S' h' v t => Ul cx S' h' v t) (.ok t ρ)
noncomputable def Jq (F : D → Option T) (f : AEnv → Res Bv) : AEnv → Res T := fun ρ => (f ρ).bind fun a ρ₁ => ob (a.get ρ₁) fun x => ob (F x) fun t => .ok t ρ₁
noncomputable def Qr (F : D → D → Option T) (f g : AEnv → Res Bv) : AEnv → Res T := fun ρ => (f ρ).bind fun a ρ₁ => (g ρ₁).bind fun b ρ₂ => ob (a.get ρ₂) fun x => ob (b.get ρ₂) fun y => ob (F x y) fun t => .ok t ρ₂
section
variable {G : Gd} {cx : Cx} {sc : Scope} {same : Bool} {α β : Type} {S : Addr → Prop} {s : Shared}
theorem QD.stuck {m : Sem α} {J : (Addr → Prop) → Heap → α → β → Prop} : QD G cx sc same m S s J .stuck := fun _ _ out => out.elim
theorem QD.wp {m m' : Sem α} {J : (Addr → Prop) → Heap → α → β → Prop} {r : Res β} (h : QD G cx sc same m S s J r) (k : ∀ Q E, wpAny G.M cx.A m Q E s → wpAny G.M cx.A m' Q E s) : QD G cx sc same m' S s J r :=
 fun Q E out => k Q E (h Q E out)
theorem QD.operate {m : Sem Value} {vs : List Value} {J : (Addr → Prop) → Heap → Value → β → Prop} {r : Res β} (h : QD G cx sc same m S s J r) : QD G cx sc same (operate vs m) S s J r :=
 h.wp fun _ _ h => wpAny_operating h
end
theorem Of {G : Gd} {cx : Cx} {sc : Scope} {γ δ : Type} {S : Addr → Prop} {s : Shared} {l r : Expr} {f g : AEnv → Res Bv} {k : Nat} {ρ : AEnv} {n : Value → Value → Sem γ} {J : (Addr → Prop) → Heap → γ → δ → Prop} {K : D → D → AEnv → Res δ}
  (hl : Qh G k sc l f) (hr : Qh G k sc r g) (ok : CxOk G cx sc k) (rel : Rel G cx sc ρ S s.heap)
  (h : ∀ ρ' S' h' tk v w x y, Rel G cx sc ρ' S' h' → RB S' h' v x → RB S' h' w y → QD G cx sc true (n v w) S' { s with heap := h', toks := tk } J (K x y ρ'))  :
  QD G cx sc true (do let a ← eval l cx.env; let b ← holding [a] (eval r cx.env); n a b) S s J ((f ρ).bind fun a ρ₁ => (g ρ₁).bind fun b ρ₂ => ob (a.get ρ₂) fun x => ob (b.get ρ₂) fun y => K x y ρ₂) := by
 refine QD.bind (hl cx ok ρ S s rel) fun a ρ₁ va h₁ t₁ S₁ _ rel₁ ja x₁ v₁ => ?_
 refine QD.bind (QD.holding (hr cx ok ρ₁ S₁ { s with heap := h₁, toks := t₁ } rel₁)) fun b ρ₂ vb h₂ t₂ S₂ _ rel₂ jb x₂ v₂ => ?_
 have ja₂ : Z5 cx sc S₂ h₂ va a := Z5.ext ja x₂ (v₂ rfl)
 exact QD.ob fun x hx => QD.ob fun y hy => h ρ₂ S₂ h₂ t₂ va vb x y rel₂ (ja₂.rb rel₂ hx) (Z5.rb jb rel₂ hy)
theorem Qk {G : Gd} {k : Nat} {sc : Scope} {l r : Expr} {op : Operator} {pos : Pos} {f g : AEnv → Res Bv} {F : D → D → Option T} (hl : Qh G k sc l f) (hr : Qh G k sc r g) (hop : Op2 G (binaryOp op) F) :
  Sim G k sc (.BinOp l op r pos) (Qr F f g) := by
 intro cx ok ρ S s rel
 show QD G cx sc true (do let a ← eval l cx.env; let b ← holding [a] (eval r cx.env); standAt pos; operate [a, b] (binaryOp op a b)) S s _ _
 refine Of (K := fun x y ρ₂ => ob (F x y) fun t => .ok t ρ₂) hl hr ok rel fun ρ' S' h' tk v w x y rel' rx ry => ?_
 exact QD.standAt (QD.operate (QD.ob fun t ht => hop cx sc (ok.mono (Nat.zero_le _)) ρ' S' { s with heap := h', toks := tk } v w x y t rel' rx ry ht))
theorem CV {G : Gd} {k : Nat} {sc : Scope} {l r : Expr} {op : CmpOp} {pos : Pos} {f g : AEnv → Res Bv} {F : D → D → Option T} (hl : Qh G k sc l f) (hr : Qh G k sc r g) (hop : Op2 G (compareOp op) F)
  (hm : behindInMarks op r = false) : Sim G k sc (.Compare l [op] [r] pos) (Qr F f g) := by
 intro cx ok ρ S s rel
 rw [eval_Compare1, markedBehindIn_of_false hm]
 refine Of (K := fun x y ρ₂ => ob (F x y) fun t => .ok t ρ₂) hl hr ok rel fun ρ' S' h' tk v w x y rel' rx ry => ?_
 exact QD.standAt (QD.operate (QD.ob fun t ht => hop cx sc (ok.mono (Nat.zero_le _)) ρ' S' { s with heap := h', toks := tk } v w x y t rel' rx ry ht))
theorem XT {G : Gd} {k : Nat} {sc : Scope} {x : Expr} {op : UnaryOp} {pos : Pos} {f : AEnv → Res Bv} {F : D → Option T} (hx : Qh G k sc x f) (hop : Op1 G (unaryOp op) F) : Sim G k sc (.UnaryOp op x pos) (Jq F f) := by
 intro cx ok ρ S s rel
 show QD G cx sc true (do let v ← eval x cx.env; standAt pos; holding [v] (unaryOp op v)) S s _ _
 refine QD.bind (hx cx ok ρ S s rel) fun a ρ₁ va h₁ t₁ S₁ _ rel₁ ja x₁ v₁ => ?_
 exact QD.standAt (QD.holding (QD.ob fun d hd => QD.ob fun t ht => hop cx sc (ok.mono (Nat.zero_le _)) ρ₁ S₁ { s with heap := h₁, toks := t₁ } va d t rel₁ (Z5.rb ja rel₁ hd) ht))
noncomputable def small (b : Int) : Bool := decide (b.natAbs < 2 ^ 63)
noncomputable def OE : D → D → Option T
 | .int a, .int b => some (.sh (.int (a - b)))
 | _, _ => none
noncomputable def LG : D → D → Option T
 | .int a, .int b => if small a || small b then some (.sh (.int (a * b))) else none
 | _, _ => none
noncomputable def ZC : D → D → Option T
 | .int a, .int b => if b ≠ 0 ∧ b.natAbs < 1073741824 then some (.sh (.int (a.fdiv b))) else none
 | _, _ => none
noncomputable def XB : D → D → Option T
 | .int a, .int b => if b ≠ 0 then some (.sh (.int (a.fmod b))) else none
 | _, _ => none
noncomputable def Jl : D → Option T
 | .int a => some (.sh (.int (-a)))
 | _ => none
theorem RB.int {S : Addr → Prop} {h : Heap} {v : Value} {i : Int} (q : RB S h v (.int i)) : ∃ t, v = .int i t := by
 have := q.rv fun _ e => by cases e
 cases this; exact ⟨_, rfl⟩
theorem RB.bool {S : Addr → Prop} {h : Heap} {v : Value} {i : Bool} (q : RB S h v (.bool i)) : v = .bool i := by
 have := q.rv fun _ e => by cases e
 cases this; rfl
theorem RB.str {S : Addr → Prop} {h : Heap} {v : Value} {i : Str} (q : RB S h v (.str i)) : ∃ t, v = .str i t := by
 have := q.rv fun _ e => by cases e
 cases this; exact ⟨_, rfl⟩
theorem RB.none {S : Addr → Prop} {h : Heap} {v : Value} (q : RB S h v .none) : v = .none := by
 have := q.rv fun _ e => by cases e
 cases this; rfl
theorem RB.tup {S : Addr → Prop} {h : Heap} {v : Value} {ds : List D} (q : RB S h v (.tup ds)) : SeqV "tuple" S h v ds := by
 have := q.rv fun _ e => by cases e
 cases this with | tup e hc hd r => exact ⟨_, _, _, _, rfl, e, hc, hd, r⟩
theorem ZS {G : Gd} {cx : Cx} {sc : Scope} {ρ : AEnv} {S : Addr → Prop} {s : Shared} {Q : Value → Shared → Prop} {E : Value → Shared → Prop} {d : D} (out : Out G cx sc true S s (fun S' h' v t => Ul cx S' h' v t) Q E (.ok (.sh d) ρ))
  (rel : Rel G cx sc ρ S s.heap) {v : Value} {tk : Nat} (q : RV S s.heap v d) : Q v { s with toks := tk } := out v s.heap tk S rel q (Ext.refl ..) fun _ => QR.refl _ _
section
variable {G : Gd}
theorem Bm : Op2 G (binaryOp .Sub) OE := by
 intro cx sc ok ρ S s v w x y t rel rx ry e Q E out
 unfold OE at e; split at e
 ·obtain ⟨_, rfl⟩ := rx.int; obtain ⟨_, rfl⟩ := ry.int; cases e
  exact PySem.P.sub_int (ZS out rel (.int _ _))
 ·cases e
theorem V0 {b : Int} (h : small b = true) : Builtin.Int.intBits b ≤ 64 := by
 unfold small at h; simp only [decide_eq_true_eq] at h
 exact intBits_le_64 (by omega) (by omega)
set_option tactic.hygienic true in
theorem Li : Op2 G (binaryOp .Mult) LG := by
 intro cx sc ok ρ S s v w x y t rel rx ry e Q E out
 unfold LG at e; split at e
 ·obtain ⟨_, rfl⟩ := rx.int; obtain ⟨_, rfl⟩ := ry.int
  split at e
  ·rename_i hs
   cases e
   refine PySem.P.mul_int (ZS out rel (.int _ _)) ?_
   rcases Bool.or_eq_true_iff.mp hs with q | q
   ·exact .of_left (V0 q)
   ·exact .of_right (V0 q)
  ·cases e
 ·cases e
set_option tactic.hygienic true in
theorem ZW : Op2 G (binaryOp .FloorDiv) ZC := by
 intro cx sc ok ρ S s v w x y t rel rx ry e Q E out
 unfold ZC at e; split at e
 ·obtain ⟨_, rfl⟩ := rx.int; obtain ⟨_, rfl⟩ := ry.int
  split at e
  ·rename_i hs
   cases e
   exact PyProof.Rows.floordiv_int hs.1 (ZS out rel (.int _ _)) (.inl (PyProof.noPylong_small hs.2))
  ·cases e
 ·cases e
set_option tactic.hygienic true in
theorem XZ : Op2 G (binaryOp .Mod) XB := by
 intro cx sc ok ρ S s v w x y t rel rx ry e Q E out
 unfold XB at e; split at e
 ·obtain ⟨_, rfl⟩ := rx.int; obtain ⟨_, rfl⟩ := ry.int
  split at e
  ·rename_i hs
   cases e
   exact PyProof.Rows.mod_int' hs (ZS out rel (.int _ _))
  ·cases e
 ·cases e
theorem JP : Op1 G (unaryOp .USub) Jl := by
 intro cx sc ok ρ S s v x t rel rx e Q E out
 unfold Jl at e; split at e
 ·obtain ⟨_, rfl⟩ := rx.int; cases e
  exact PySem.P.neg_int (ZS out rel (.int _ _))
 ·cases e
noncomputable def ltI : D → D → Option T
 | .int a, .int b => some (.sh (.bool (decide (a < b))))
 | _, _ => none
noncomputable def leI : D → D → Option T
 | .int a, .int b => some (.sh (.bool (decide (a ≤ b))))
 | _, _ => none
noncomputable def gtI : D → D → Option T
 | .int a, .int b => some (.sh (.bool (decide (b < a))))
 | _, _ => none
theorem GW : Op2 G (compareOp .Lt) ltI := by
 intro cx sc ok ρ S s v w x y t rel rx ry e Q E out
 unfold ltI at e; split at e
 ·obtain ⟨_, rfl⟩ := rx.int; obtain ⟨_, rfl⟩ := ry.int; cases e
  exact PySem.P.lt_int (ZS out rel (.bool _))
 ·cases e
theorem On : Op2 G (compareOp .LtE) leI := by
 intro cx sc ok ρ S s v w x y t rel rx ry e Q E out
 unfold leI at e; split at e
 ·obtain ⟨_, rfl⟩ := rx.int; obtain ⟨_, rfl⟩ := ry.int; cases e
  exact PySem.P.le_int (ZS out rel (.bool _))
 ·cases e
theorem DG : Op2 G (compareOp .Gt) gtI := by
 intro cx sc ok ρ S s v w x y t rel rx ry e Q E out
 unfold gtI at e; split at e
 ·obtain ⟨_, rfl⟩ := rx.int; obtain ⟨_, rfl⟩ := ry.int; cases e
  exact PySem.P.gt_int (ZS out rel (.bool _))
 ·cases e
end
mutual
noncomputable def Wy : D → Option PyData
 | .none => some .none
 | .bool b => some (.bool b)
 | .int i => some (.int i)
 | .str x => some (.str x)
 | .tup ds => (YM ds).map .tuple
 | .list ds => (YM ds).map .list
 | _ => none
noncomputable def YM : List D → Option (List PyData)
 | [] => some []
 | d :: ds => match Wy d, YM ds with
  | some p, some ps => some (p :: ps)
  | _, _ => none
end
theorem CE {h : Heap} {vs : List Value} {ds : List D} {p : PyData} {k : List PyData → PyData} (r : ∀ {ps : List PyData}, YM ds = some ps → ∃ as, ReadsAll h vs ps as) (e : (YM ds).map k = some p) : ∃ ps as, p = k ps ∧ ReadsAll h vs ps as := by
 cases hq : YM ds with
 | none => rw [hq] at e; cases e
 | some ps =>
  rw [hq] at e; cases e
  obtain ⟨as, q⟩ := r hq
  exact ⟨ps, as, rfl, q⟩
theorem RV.reads {S : Addr → Prop} {h : Heap} {v : Value} {d : D} (q : RV S h v d) : ∀ {p : PyData}, Wy d = some p → ∃ as, Reads h v p as :=
 RV.rec (motive_1 := fun v d _ => ∀ {p : PyData}, Wy d = some p → ∃ as, Reads h v p as) (motive_2 := fun vs ds _ => ∀ {ps : List PyData}, YM ds = some ps → ∃ as, ReadsAll h vs ps as)
  (fun e => by cases e; exact ⟨_, .none⟩) (fun b _ e => by cases e; exact ⟨_, .bool b⟩) (fun i t _ e => by cases e; exact ⟨_, .int i t⟩) (fun x t _ e => by cases e; exact ⟨_, .str x t⟩)
  (fun a b c _ r _ e => by obtain ⟨ps, as, rfl, q⟩ := CE (k := .tuple) r e; exact ⟨as, .tuple a b c q⟩)
  (fun _ a b c _ r _ e => by obtain ⟨ps, as, rfl, q⟩ := CE (k := .list) r e; exact ⟨_, .list a b.1 c q⟩)
  (fun _ _ e => by cases e) (fun _ _ _ _ _ _ e => by cases e) (fun _ _ _ e => by cases e) (fun _ _ _ _ _ _ _ _ e => by cases e)
  (fun e => by cases e; exact ⟨_, .nil⟩)
  (fun {v d vs ds} _ _ a b _ e => by
   have e : (match Wy d, YM ds with | some p, some ps => some (p :: ps) | _, _ => Option.none) = some _ := e
   cases hp : Wy d with
   | none => rw [hp] at e; cases e
   | some p =>
    cases hq : YM ds with
    | none => rw [hp, hq] at e; cases e
    | some ps =>
     rw [hp, hq] at e; cases e
     obtain ⟨as, q'⟩ := a hp
     obtain ⟨bs, r'⟩ := b hq
     exact ⟨_, .cons q' r'⟩) q
noncomputable def eqD (x y : D) : Option Bool := match Wy x, Wy y with
 | some p, some q => if SeqAt.shaped p && SeqAt.shaped q then some (PyData.eqv p q) else none
 | _, _ => none
noncomputable def eqI (x y : D) : Option T := (eqD x y).map fun b => .sh (.bool b)
noncomputable def neI (x y : D) : Option T := (eqD x y).map fun b => .sh (.bool !b)
set_option tactic.hygienic true in
theorem Ct {S : Addr → Prop} {h : Heap} {v w : Value} {x y : D} {b : Bool} (rx : RB S h v x) (ry : RB S h w y) (e : eqD x y = some b) :
  ∃ p q as bs, Reads h v p as ∧ Reads h w q bs ∧ SeqAt.shaped p = true ∧ SeqAt.shaped q = true ∧ b = PyData.eqv p q := by
 unfold eqD at e
 split at e
 ·rename_i p q hp hq
  split at e
  ·rename_i hs
   obtain ⟨h1, h2⟩ := Bool.and_eq_true_iff.mp hs
   obtain ⟨as, ra⟩ := RV.reads rx.any hp
   obtain ⟨bs, rb⟩ := RV.reads ry.any hq
   exact ⟨p, q, as, bs, ra, rb, h1, h2, (Option.some.inj e).symm⟩
  ·cases e
 ·cases e
theorem Ur {G : Gd} : Op2 G (compareOp .Eq) eqI := by
 intro cx sc ok ρ S s v w x y t rel rx ry e Q E out
 unfold eqI at e
 obtain ⟨b, hb, rfl⟩ := Option.map_eq_some_iff.mp e
 obtain ⟨p, q, as, bs, ra, rb, h1, h2, rfl⟩ := Ct rx ry hb
 exact PyProof.Rows.eq_dataH ra rb h1 h2 (by have := ok.room.2; unfold cLine; lia) (ZS out rel (tk := s.toks) (.bool _))
theorem Cw {G : Gd} : Op2 G (compareOp .NotEq) neI := by
 intro cx sc ok ρ S s v w x y t rel rx ry e Q E out
 unfold neI at e
 obtain ⟨b, hb, rfl⟩ := Option.map_eq_some_iff.mp e
 obtain ⟨p, q, as, bs, ra, rb, h1, h2, rfl⟩ := Ct rx ry hb
 exact PyProof.Rows.ne_dataH ra rb h1 h2 (by have := ok.room.2; unfold cLine; lia) (ZS out rel (tk := s.toks) (.bool _))
noncomputable def isD (x : D) : D → Option Bool
 | .none => (match x with | .none => some true | .glob _ => none | _ => some false)
 | .bool c => (match x with | .bool b => some (b == c) | .glob _ => none | _ => some false)
 | _ => none
noncomputable def isI (x y : D) : Option T := (isD x y).map fun b => .sh (.bool b)
noncomputable def YX (x y : D) : Option T := (isD x y).map fun b => .sh (.bool !b)
set_option tactic.hygienic true in
theorem DE {S : Addr → Prop} {h : Heap} {v w : Value} {x y : D} {b : Bool} (rx : RB S h v x) (ry : RB S h w y) (e : isD x y = some b) : isSame v w = pure b := by
 have rx := rx.any
 unfold isD at e
 split at e
 ·rw [ry.none]
  cases rx <;> first | (cases e; rfl) | (cases e; done)
 ·rename_i c
  rw [ry.bool]
  cases rx with
  | bool b' => simp only [Option.some.injEq] at e; subst e; cases b' <;> cases c <;> rfl
  | _ => first | (cases e; rfl) | (cases e; done)
 ·cases e
theorem Cm {G : Gd} : Op2 G (compareOp .Is) isI := by
 intro cx sc ok ρ S s v w x y t rel rx ry e Q E out
 unfold isI at e
 obtain ⟨b, hb, rfl⟩ := Option.map_eq_some_iff.mp e
 show wpAny G.M cx.A (do return .bool (← isSame v w)) Q E s
 rw [DE rx ry hb]
 exact wpAny_bind (wpAny_pure (wpAny_pure (ZS out rel (tk := s.toks) (.bool _))))
theorem Bk {G : Gd} : Op2 G (compareOp .IsNot) YX := by
 intro cx sc ok ρ S s v w x y t rel rx ry e Q E out
 unfold YX at e
 obtain ⟨b, hb, rfl⟩ := Option.map_eq_some_iff.mp e
 show wpAny G.M cx.A (do return .bool (!(← isSame v w))) Q E s
 rw [DE rx ry hb]
 exact wpAny_bind (wpAny_pure (wpAny_pure (ZS out rel (tk := s.toks) (.bool _))))
end Mine
end

section
set_option Elab.async false
set_option maxRecDepth 100000
namespace Mine
open PySem
section
variable {G : Gd} {cx : Cx} {sc : Scope} {ρ : AEnv} {S : Addr → Prop} {s : Shared}
theorem Rel.push (r : Rel G cx sc ρ S s.heap) (o : Obj) : Rel G cx sc ρ S (s.heap.push o) := r.keeps fun _ _ e => Heap.get?_push_of_some _ e
theorem Xr {S : Addr → Prop} {h : Heap} (o : Obj) : Ext S h S (h.push o) := Ext.of_keeps fun _ _ e => Heap.get?_push_of_some _ e
theorem XY {h : Heap} (o : Obj) : Kp h (h.push o) := Kp.of_keeps fun _ _ e => Heap.get?_push_of_some _ e
theorem B9 {vs : List Value} {ds : List D} (r : Rel G cx sc ρ S s.heap) (q : RVs S s.heap vs ds) (hl : ds.length ≤ 1000000) :
  QD G cx sc true (newTuple vs) S s (fun S' h' v t => Ul cx S' h' v t) (.ok (.sh (.tup ds)) ρ) := by
 intro Q E out
 refine wpAny_newObj_type (out _ _ s.toks S (r.push _) ?_ (Xr _) fun _ => r.same (XY _)) ?_
 ·exact .tup (Heap.get?_push_size _ rfl) rfl rfl (by simpa using q.ext (Xr _))
 ·show vs.toArray.size ≤ sizeLine
  rw [List.size_toArray, q.length, sizeLine_eq]; exact omB hl
theorem ZU {h' : Heap} {a : Addr} {vs : Array Value} {n : Nat} {ds : List D} (r : Rel G cx sc ρ S s.heap) (k : Kp s.heap h') (e : s.heap.get? a = none) (e' : h'.get? a = some { cls := .type "list", data := .seq vs n }) (q : RVs S h' vs.toList ds) :
  Fresh cx S h' (.ref a) (.list ds) := by
 refine ⟨a, rfl, fun q => ?_, ⟨vs, n, e', q⟩, r.keep.none e, fun x hd q => ?_⟩
 ·obtain ⟨o, e₁⟩ := r.sdom _ q; rw [e] at e₁; cases e₁
 ·obtain ⟨o, e₁⟩ := r.live x _ hd (Var.of_kp k r.ns r.cells q); rw [e] at e₁; cases e₁
theorem Df {vs : List Value} {ds : List D} (r : Rel G cx sc ρ S s.heap) (q : RVs S s.heap vs ds) (hl : ds.length ≤ 1000000) :
  QD G cx sc true (newList vs) S s (fun S' h' v t => Ul cx S' h' v t) (.ok (.ow true (.list ds)) ρ) := by
 intro Q E out
 refine wpAny_newObj_type (out _ _ s.toks S (r.push _) ?_ (Xr _) fun _ => r.same (XY _)) ?_
 ·exact ZU r (XY _) (Heap.get?_none_of_le (Nat.le_refl _)) (Heap.get?_push_size _ rfl) (by simpa using q.ext (Xr _))
 ·show vs.toArray.size ≤ sizeLine
  rw [List.size_toArray, q.length, sizeLine_eq]; exact omB hl
end
noncomputable def Os (G : Gd) (k : Nat) (sc : Scope) (es : List Expr) (f : AEnv → Res (List D)) : Prop :=
 ∀ pos cx, CxOk G cx sc k → ∀ ρ S s, Rel G cx sc ρ S s.heap → QD G cx sc true (spliced (backTo pos (starEach es cx.env))) S s (fun S' h' vs ds => RVs S' h' vs ds) (f ρ)
noncomputable def Xv : AEnv → Res (List D) := fun ρ => .ok [] ρ
noncomputable def Qw (f : AEnv → Res T) (g : AEnv → Res (List D)) : AEnv → Res (List D) := fun ρ => (f ρ).bind fun t ρ₁ => (g ρ₁).bind fun ds ρ₂ => .ok (t.val :: ds) ρ₂
noncomputable def XH : Expr → Bool
 | .Starred .. => false
 | _ => true
theorem UO {e : Expr} {rest : List Expr} {env : Env} (h : XH e = true) : starEach (e :: rest) env = (false, eval e env) :: starEach rest env := by
 cases e <;> first | rfl | cases h
section
variable {G : Gd} {k : Nat} {sc : Scope}
theorem Qv : Os G k sc [] Xv := fun pos cx ok ρ S s r => QD.pure r .nil
theorem US {pos : Pos} {e : Expr} {rest : List Expr} {env : Env} (h : XH e = true) : spliced (backTo pos (starEach (e :: rest) env)) = (do
  let v ← eval e env
  let here ← (pure [v] : Sem (List Value))
  return here ++ (← holding here (spliced (backTo pos (starEach rest env))))) := by
 rw [UO h]; rfl
theorem QD.shared {cx : Cx} {S : Addr → Prop} {s : Shared} {m : Sem Value} {r : Res T} (h : QD G cx sc true m S s (fun S' h' v t => Ul cx S' h' v t) r) :
  QD G cx sc true m S s (fun S' h' v d => RV S' h' v d) (r.bind fun t ρ => .ok t.val ρ) := by
 intro Q E out
 refine h Q E ?_
 cases r with
 | stuck => exact out
 | exc C ρ => exact out
 | ok t ρ =>
  intro v h' tk S' rel j x vs
  obtain ⟨S₂, rel₂, rv, x₂⟩ := rel.drop j
  exact out v h' tk S₂ rel₂ rv (x.trans x₂) vs
theorem IA {α β γ : Type} (r : Res α) (f : α → β) (g : β → AEnv → Res γ) : (r.bind fun a ρ => .ok (f a) ρ).bind g = r.bind fun a ρ => g (f a) ρ := by
 cases r <;> rfl
theorem ED {e : Expr} {rest : List Expr} {f : AEnv → Res T} {g : AEnv → Res (List D)} (he : Sim G k sc e f) (hr : Os G k sc rest g) (hs : XH e = true) : Os G k sc (e :: rest) (Qw f g) := by
 intro pos cx ok ρ S s r
 rw [US hs]
 unfold Qw
 rw [← IA (f ρ) T.val (fun d ρ₁ => (g ρ₁).bind fun ds ρ₂ => .ok (d :: ds) ρ₂)]
 refine QD.bind (he cx ok ρ S s r).shared fun d ρ₁ v h₁ t₁ S₁ _ r₁ j₁ x₁ v₁ => ?_
 intro Q E out
 refine wpAny_bind (wpAny_pure ?_)
 refine (QD.bind (J' := fun S' h' vs ds => RVs S' h' vs ds) (QD.holding (hr pos cx ok ρ₁ S₁ { s with heap := h₁, toks := t₁ } r₁)) fun ds ρ₂ vs h₂ t₂ S₂ _ r₂ j₂ x₂ v₂ => ?_) Q E out
 exact QD.pure r₂ (.cons (j₁.ext x₂) j₂)
end
noncomputable def YK (f : AEnv → Res (List D)) : AEnv → Res T := fun ρ => (f ρ).bind fun ds ρ₁ => if ds.length ≤ 1000000 then .ok (.sh (.tup ds)) ρ₁ else .stuck
noncomputable def ZA (f : AEnv → Res (List D)) : AEnv → Res T := fun ρ => (f ρ).bind fun ds ρ₁ => if ds.length ≤ 1000000 then .ok (.ow true (.list ds)) ρ₁ else .stuck
section
variable {G : Gd} {k : Nat} {sc : Scope}
set_option tactic.hygienic true in
theorem XQ {es : List Expr} {n : Nat} {pos : Pos} {f : AEnv → Res (List D)} (h : Os G k sc es f) : Sim G k sc (.Tuple es n pos) (YK f) := by
 intro cx ok ρ S s r
 show QD G cx sc true (do standAt pos; newTuple (← spliced (backTo pos (starEach es cx.env)))) S s _ _
 refine QD.standAt (QD.bind (h pos cx ok ρ S s r) fun ds ρ₁ vs h₁ t₁ S₁ _ r₁ j₁ x₁ v₁ => ?_)
 split
 ·rename_i hl; exact B9 (s := { s with heap := h₁, toks := t₁ }) r₁ j₁ hl
 ·exact QD.stuck
set_option tactic.hygienic true in
theorem Q4 {es : List Expr} {pos : Pos} {f : AEnv → Res (List D)} (h : Os G k sc es f) : Sim G k sc (.List es pos) (ZA f) := by
 intro cx ok ρ S s r
 show QD G cx sc true (do standAt pos; newList (← spliced (backTo pos (starEach es cx.env)))) S s _ _
 refine QD.standAt (QD.bind (h pos cx ok ρ S s r) fun ds ρ₁ vs h₁ t₁ S₁ _ r₁ j₁ x₁ v₁ => ?_)
 split
 ·rename_i hl; exact Df (s := { s with heap := h₁, toks := t₁ }) r₁ j₁ hl
 ·exact QD.stuck
end
noncomputable def Kk (G : Gd) (k : Nat) (sc : Scope) (e : Expr) (f : AEnv → Res Bool) : Prop :=
 ∀ cx, CxOk G cx sc k → ∀ ρ S s, Rel G cx sc ρ S s.heap → QD G cx sc true (isTrue e cx.env (eval e cx.env)) S s (fun _ _ a b => a = b) (f ρ)
noncomputable def asB : D → Option Bool
 | .bool b => some b
 | _ => none
theorem VG {d : D} {b : Bool} (h : asB d = some b) : d = .bool b := by cases d <;> first | exact nn h | (cases h; rfl)
noncomputable def Bw : T → Option Bool
 | .sh d => asB d
 | .ow _ _ => none
theorem Cp {t : T} {b : Bool} (h : Bw t = some b) : t = .sh (.bool b) := by
 cases t with
 | sh d => rw [VG h]
 | ow m d => exact nn h
noncomputable def XU (f : AEnv → Res Bv) : AEnv → Res Bool := fun ρ => (f ρ).bind fun a ρ₁ => ob (a.get ρ₁) fun x => ob (asB x) fun b => .ok b ρ₁
noncomputable def Y6 (f : AEnv → Res Bool) : AEnv → Res Bool := fun ρ => (f ρ).bind fun b ρ₁ => .ok (!b) ρ₁
noncomputable def KY : AEnv → Res Bool := fun ρ => .ok true ρ
noncomputable def Z3 : AEnv → Res Bool := fun ρ => .ok false ρ
noncomputable def CZ (f g : AEnv → Res Bool) : AEnv → Res Bool := fun ρ => (f ρ).bind fun b ρ₁ => if b then g ρ₁ else .ok false ρ₁
noncomputable def eOr (f g : AEnv → Res Bool) : AEnv → Res Bool := fun ρ => (f ρ).bind fun b ρ₁ => if b then .ok true ρ₁ else g ρ₁
noncomputable def Xl (F : D → D → Option T) (f g : AEnv → Res Bv) : AEnv → Res Bool := fun ρ => (f ρ).bind fun a ρ₁ => (g ρ₁).bind fun b ρ₂ => ob (a.get ρ₂) fun x => ob (b.get ρ₂) fun y => ob (F x y) fun t => ob (Bw t) fun b => .ok b ρ₂
section
variable {G : Gd} {k : Nat} {sc : Scope}
theorem DX {e : Expr} {f : AEnv → Res Bv} (h : Qh G k sc e f) (he : ∀ env whole, isTrue e env whole = (do let v ← whole; standAt e.pos; holding [v] (truthy v))) : Kk G k sc e (XU f) := by
 intro cx ok ρ S s r
 rw [he]
 refine QD.bind (h cx ok ρ S s r) fun a ρ₁ va h₁ t₁ S₁ _ r₁ ja x₁ v₁ => ?_
 refine QD.standAt (QD.holding (QD.ob fun x hx => QD.ob fun b hb => ?_))
 obtain rfl := VG hb
 obtain rfl := (Z5.rb ja r₁ hx).bool
 exact fun Q E out => wpAny_truthy_bool (out _ h₁ t₁ S₁ r₁ rfl (Ext.refl ..) fun _ => QR.refl _ _)
theorem XI {x : Expr} {pos : Pos} {f : AEnv → Res Bool} (h : Kk G k sc x f) : Kk G k sc (.UnaryOp .Not x pos) (Y6 f) := by
 intro cx ok ρ S s r
 show QD G cx sc true (do return !(← isTrue x cx.env (eval x cx.env))) S s _ _
 refine QD.bind (h cx ok ρ S s r) fun b ρ₁ a h₁ t₁ S₁ _ r₁ j x₁ v₁ => ?_
 exact QD.pure r₁ (by rw [j])
noncomputable def VZ (G : Gd) (k : Nat) (sc : Scope) (op : BoolOp) (es : List Expr) (f : AEnv → Res Bool) : Prop :=
 ∀ cx, CxOk G cx sc k → ∀ ρ S s, Rel G cx sc ρ S s.heap → QD G cx sc true (allTrue op es cx.env) S s (fun _ _ a b => a = b) (f ρ)
theorem B2 : VZ G k sc .And [] KY := fun _ _ _ _ _ r => QD.pure r rfl
theorem Xx : VZ G k sc .Or [] Z3 := fun _ _ _ _ _ r => QD.pure r rfl
theorem CH {x : Expr} {rest : List Expr} {f g : AEnv → Res Bool} (hx : Kk G k sc x f) (hr : VZ G k sc .And rest g) : VZ G k sc .And (x :: rest) (CZ f g) := by
 intro cx ok ρ S s r
 show QD G cx sc true (do match BoolOp.And, ← isTrue x cx.env (eval x cx.env) with | .And, false => pure false | .Or, true => pure true | _, _ => allTrue .And rest cx.env) S s _ _
 refine QD.bind (hx cx ok ρ S s r) fun b ρ₁ a h₁ t₁ S₁ _ r₁ j x₁ v₁ => ?_
 subst j
 cases a
 ·exact QD.pure r₁ rfl
 ·exact hr cx ok ρ₁ S₁ _ r₁
theorem Xj {x : Expr} {rest : List Expr} {f g : AEnv → Res Bool} (hx : Kk G k sc x f) (hr : VZ G k sc .Or rest g) : VZ G k sc .Or (x :: rest) (eOr f g) := by
 intro cx ok ρ S s r
 show QD G cx sc true (do match BoolOp.Or, ← isTrue x cx.env (eval x cx.env) with | .And, false => pure false | .Or, true => pure true | _, _ => allTrue .Or rest cx.env) S s _ _
 refine QD.bind (hx cx ok ρ S s r) fun b ρ₁ a h₁ t₁ S₁ _ r₁ j x₁ v₁ => ?_
 subst j
 cases a
 ·exact hr cx ok ρ₁ S₁ _ r₁
 ·exact QD.pure r₁ rfl
theorem XC {op : BoolOp} {es : List Expr} {pos : Pos} {f : AEnv → Res Bool} (h : VZ G k sc op es f) : Kk G k sc (.BoolOp op es pos) f := by
 intro cx ok ρ S s r
 rw [arm_isTrue_BoolOp]; exact h cx ok ρ S s r
theorem KD {cx : Cx} {ρ : AEnv} {S : Addr → Prop} {s : Shared} {m : Sem Value} {t : T} (h : QD G cx sc true m S s (fun S' h' v t => Ul cx S' h' v t) (.ok t ρ)) {vs : Value → List Value} :
  QD G cx sc true (do let c ← m; holding (vs c) (truthy c)) S s (fun _ _ a b => a = b) (ob (Bw t) fun b => .ok b ρ) := by
 intro Q E out
 obtain ⟨b, hb, out⟩ := out.ob
 obtain rfl := Cp hb
 refine wpAny_bind (h _ _ ?_)
 intro v h' tk S' rel j x v'
 cases j with
 | bool b => exact wpAny_holding (wpAny_truthy_bool (out _ h' tk S' rel rfl x v'))
theorem Cd {l r : Expr} {op : CmpOp} {pos : Pos} {f g : AEnv → Res Bv} {F : D → D → Option T} (hl : Qh G k sc l f) (hr : Qh G k sc r g) (hop : Op2 G (compareOp op) F)
  (hm : behindInMarks op r = false) : Kk G k sc (.Compare l [op] [r] pos) (Xl F f g) := by
 intro cx ok ρ S s rel
 rw [isTrue_Compare1, markedBehindIn_of_false hm]
 refine Of (K := fun x y ρ₂ => ob (F x y) fun t => ob (Bw t) fun b => .ok b ρ₂) hl hr ok rel fun ρ' S' h' tk v w x y rel' rx ry => ?_
 exact QD.standAt (QD.ob fun t ht => KD (vs := fun c => [c]) (QD.operate (vs := [v, w]) (hop cx sc (ok.mono (Nat.zero_le _)) ρ' S' { s with heap := h', toks := tk } v w x y t rel' rx ry ht)))
end
noncomputable def JS (F F' : D → D → Option T) (f g h : AEnv → Res Bv) : AEnv → Res Bool := fun ρ => (f ρ).bind fun a ρ₁ => (g ρ₁).bind fun b ρ₂ => ob (a.get ρ₂) fun x => ob (b.get ρ₂) fun y => ob (F x y) fun t => ob (Bw t) fun v => if v then (h ρ₂).bind fun c ρ₃ => ob (b.get ρ₃) fun y' => ob (c.get ρ₃) fun z => ob (F' y' z) fun t' => ob (Bw t') fun w => .ok w ρ₃ else .ok false ρ₂
theorem CX {G : Gd} {k : Nat} {sc : Scope} {r : Expr} {op : CmpOp} {pos : Pos} {h : AEnv → Res Bv} {F : D → D → Option T} {cx : Cx} {ρ : AEnv} {S : Addr → Prop} {s : Shared} {vb : Value} {b : Bv} (hr : Qh G k sc r h) (hop : Op2 G (compareOp op) F) (ok : CxOk G cx sc k) (rel : Rel G cx sc ρ S s.heap) (jb : Z5 cx sc S s.heap vb b) :
  QD G cx sc true (do let rv ← holding [vb] (eval r cx.env); standAt pos; let c ← operate [vb, rv] (compareOp op vb rv); holding [c] (truthy c)) S s (fun _ _ a b => a = b)
   ((h ρ).bind fun c ρ₃ => ob (b.get ρ₃) fun y' => ob (c.get ρ₃) fun z => ob (F y' z) fun t' => ob (Bw t') fun w => .ok w ρ₃) := by
 refine QD.bind (QD.holding (hr cx ok ρ S s rel)) fun c' ρ₄ vc h₄ t₄ S₄ _ rel₄ jc x₄ v₄ => ?_
 exact QD.standAt (QD.ob fun y' hy' => QD.ob fun z hz => QD.ob fun t' ht => KD (vs := fun c => [c]) (QD.operate (vs := [vb, vc]) (hop cx sc (ok.mono (Nat.zero_le _)) ρ₄ S₄ { s with heap := h₄, toks := t₄ } vb vc y' z t' rel₄ (Z5.rb (Z5.ext jb x₄ (v₄ rfl)) rel₄ hy') (Z5.rb jc rel₄ hz) ht)))
theorem Fj {G : Gd} {k : Nat} {sc : Scope} {l m r : Expr} {op op' : CmpOp} {pos : Pos} {f g h : AEnv → Res Bv} {F F' : D → D → Option T} (hl : Qh G k sc l f) (hm : Qh G k sc m g) (hr : Qh G k sc r h) (hop : Op2 G (compareOp op) F) (hop' : Op2 G (compareOp op') F')
  (hb : behindInMarks op' r = false) : Kk G k sc (.Compare l [op, op'] [m, r] pos) (JS F F' f g h) := by
 intro cx ok ρ S s rel
 show QD G cx sc true (do testChain pos (← eval l cx.env) [op, op'] [eval m cx.env, markedBehindIn op' r (eval r cx.env)]) S s _ _
 rw [markedBehindIn_of_false hb]
 show QD G cx sc true (do
  let a ← eval l cx.env
  let rv ← holding [a] (eval m cx.env)
  standAt pos
  let c ← holding [a, rv] (compareOp op a rv)
  release [a, rv] [c]
  if ← holding [c, rv] (truthy c) then testChain pos rv [op'] [eval r cx.env] else pure false) S s _ _
 unfold JS
 refine QD.bind (hl cx ok ρ S s rel) fun a ρ₁ va h₁ t₁ S₁ _ rel₁ ja x₁ v₁ => ?_
 refine QD.bind (QD.holding (hm cx ok ρ₁ S₁ { s with heap := h₁, toks := t₁ } rel₁)) fun b ρ₂ vb h₂ t₂ S₂ _ rel₂ jb x₂ v₂ => ?_
 have ja₂ : Z5 cx sc S₂ h₂ va a := Z5.ext ja x₂ (v₂ rfl)
 refine QD.standAt (QD.ob fun x hx => QD.ob fun y hy => QD.ob fun t ht => ?_)
 intro Q E out
 obtain ⟨b', hb', out⟩ := out.ob
 obtain rfl := Cp hb'
 refine wpAny_bind (wpAny_holding (hop cx sc (ok.mono (Nat.zero_le _)) ρ₂ S₂ { s with heap := h₂, toks := t₂ } va vb x y _ rel₂ (ja₂.rb rel₂ hx) (Z5.rb jb rel₂ hy) ht _ _ ?_))
 intro c h₃ t₃ S₃ rel₃ j₃ x₃ v₃
 refine wpAny_bind (wpAny_release (wpAny_bind (wpAny_holding ?_)))
 cases j₃
 refine wpAny_truthy_bool ?_
 cases b' with
 | false => exact wpAny_pure (out _ h₃ t₃ S₃ rel₃ rfl x₃ v₃)
 | true => exact CX (s := { s with heap := h₃, toks := t₃ }) hr hop' ok rel₃ (Z5.ext jb x₃ (v₃ rfl)) Q E (out.lift x₃ v₃)
end Mine
end

section
set_option Elab.async false
set_option maxRecDepth 100000
namespace Mine
open PySem
structure KpE (B h : Heap) (e : Addr) (g h' : Heap) : Prop where
 keep : ∀ b o, g.get? b = some o → b ≠ e → (o.cls ≠ .type "traceback" ∨ ∃ o₀, h.get? b = some o₀) → Kept h' b o
 base : ∀ b o, B.get? b = some o → g.get? b = some o → b ≠ e → (∃ o₀, h.get? b = some o₀) → h'.get? b = some o
 dom : ∀ b o, g.get? b = some o → ∃ o', h'.get? b = some o'
 kd : ∀ b o es n, g.get? b = some o → o.data = .dict es n → ∃ sl, h'.get? b = some { o with slots := sl }
theorem KpE.trans {B h : Heap} {e : Addr} {g₁ g₂ g₃ : Heap} (x : KpE B h e g₁ g₂) (y : KpE B h e g₂ g₃) : KpE B h e g₁ g₃ where
 keep := fun b o eb hb q => by
  obtain ⟨sl, e₁, k₁⟩ := x.keep b o eb hb q
  obtain ⟨sl', e₂, k₂⟩ := y.keep b _ e₁ hb q
  exact ⟨sl', e₂, fun hn => (k₂ hn).trans (k₁ hn)⟩
 base := fun b o eb eg hb q => y.base b o eb (x.base b o eb eg hb q) hb q
 dom := fun b o eb => let ⟨o', e'⟩ := x.dom b o eb; y.dom b o' e'
 kd := fun b o es n eb hd => by
  obtain ⟨sl, e₁⟩ := x.kd b o es n eb hd
  obtain ⟨sl', e₂⟩ := y.kd b _ es n e₁ hd
  exact ⟨sl', e₂⟩
theorem KpE.refl (B h : Heap) (e : Addr) (g : Heap) : KpE B h e g g := ⟨fun _ o eb _ _ => ⟨o.slots, eb, fun _ => rfl⟩, fun _ _ _ e _ _ => e, fun _ o eb => ⟨o, eb⟩, fun _ o _ _ eb _ => ⟨o.slots, eb⟩⟩
inductive FlyT (h h' : Heap) (e C : Addr) : Prop
 | mk (n : h.get? e = none) (oe : Obj) (vs : Array Value) (T : Addr) (oT : Obj) (ts : Array Value) (a : h'.get? e = some oe) (b : oe.cls = .ref C) (b' : oe.dict = none) (c : oe.data = .fields vs) (d : vs[2]? = some .none)
  (k1 : vs[1]? = some (.ref T)) (k2 : T ≠ e) (k3 : h.get? T = none) (k4 : h'.get? T = some oT) (k5 : oT.cls = .type "traceback") (k6 : oT.data = .fields ts) (k7 : 3 < ts.size) : FlyT h h' e C
theorem FlyT.fly {h h' : Heap} {e C : Addr} (x : FlyT h h' e C) : Fly h h' e C := by
 obtain ⟨n, oe, vs, T, oT, ts, a, b, b', c, d, k1, k2, k3, k4, k5, k6, k7⟩ := x
 exact ⟨n, oe, vs, a, b, b', c, d, .inr ⟨T, oT, ts, k1, k2, k3, k4, k5, k6, k7⟩⟩
theorem BL (f : Array Value → Array Value) (o : Obj) : (Obj.mapFields f o).dict = o.dict := by
 obtain ⟨c, d, dt, sl⟩ := o
 cases dt <;> rfl
theorem I2 {vs : Array Value} {x : Value} (h : vs[2]? = some .none) : (vs.setIfInBounds 1 x)[2]? = some .none := by
 rw [Array.getElem?_setIfInBounds_ne (by decide)]; exact h
section
variable {M : Model} {A : Around} {E : Value → Shared → Prop} {s : Shared} {B h : Heap} {fs : List Env} {env : Env} {e C : Addr}
theorem CR {env env' : Env} (h : env.frame = env'.frame) : frameOf env = frameOf env' := by unfold frameOf; rw [h]
theorem FF.notFrame (ff : FF B s.heap fs) {b : Addr} {o : Obj} (eb : s.heap.get? b = some o) (hn : JC o) : b ∉ fs.filterMap (·.frame) := fun hm => by
 obtain ⟨env, he, hf⟩ := List.mem_filterMap.mp hm
 obtain ⟨_, L, o', h1, _, h3, es, n, h4⟩ := ff env he
 rw [h1] at hf; cases hf
 rw [eb] at h3; cases h3
 exact hn es n h4
theorem Es {L : Addr} {oe : Obj} {vs : Array Value} {head : Value} {hadNext : Bool} {Q : Unit → Shared → Prop} (hfr : A.frames = some fs) (ff : FF B s.heap fs) (top : ∃ env₀ outer, fs = env₀ :: outer ∧ env.frame = env₀.frame) (hf : env.frame = some L)
  (hne : h.get? e = none) (dom : ∀ b o, h.get? b = some o → ∃ o', s.heap.get? b = some o') (he : s.heap.get? e = some oe) (hc : oe.cls = .ref C) (hdn : oe.dict = none) (hd : oe.data = .fields vs) (hsz : 1 < vs.size) (h2 : vs[2]? = some .none)
  (hQ : ∀ h', KpE B h e s.heap h' → FlyT h h' e C → Q () { s with heap := h' }) :
  wpAny M A (do let a ← frameOf env; let pl ← entryPlaceOf L hadNext; let b ← EntryCells.newEntry head a .none (rawInt L) .none pl; setField (.ref e) 1 b) Q E s := by
 obtain ⟨env₀, outer, rfl, hee⟩ := top
 rw [CR hee]
 have hene : e ∉ (env₀ :: outer).filterMap (·.frame) := ff.notFrame he (.fields hd)
 refine wpAny_bind (wpAny_frameOf_fun (base := B) hfr ff.fun (hee.symm.trans hf) fun h₁ hs₁ => ?_)
 refine wpAny_bind (wpAny_entryPlaceOf fun pl hpl => ?_)
 unfold EntryCells.newEntry newFields
 refine wpAny_bind (wpAny_newObj_type ?_ (hpl.sizeOk5 _ _ _ _ _))
 have he₁ : h₁.get? e = some oe := (hs₁.2.1 e hene).trans he
 have he₂ := Heap.get?_push_of_some (h := h₁) { cls := .type "traceback", dict := none, data := .fields ([head, .ref L, .none, rawInt L, .none] ++ (if pl.isEmpty then List.replicate 6 Value.none else pl)).toArray } he₁
 refine wpAny_setField he₂ hd hsz (hQ _ ?_ ?_)
 ·have keep : ∀ b o, b ≠ e → h₁.get? b = some o → ((h₁.push { cls := .type "traceback", dict := none, data := .fields ([head, .ref L, .none, rawInt L, .none] ++ (if pl.isEmpty then List.replicate 6 Value.none else pl)).toArray }).update e (Obj.mapFields (·.setIfInBounds 1 (Value.ref h₁.objs.size)))).get? b = some o := fun b o hbe hb => by
   rw [Heap.get?_update_other _ _ (Ne.symm hbe)]
   exact Heap.get?_push_of_some _ hb
  refine ⟨fun b o eb hb _ => ?_, fun b o eB eb hb _ => ?_, fun b o eb => ?_, fun b o es n eb hbd => ?_⟩
  rotate_right
  ·have hb : b ≠ e := by rintro rfl; rw [he] at eb; cases eb; rw [hd] at hbd; cases hbd
   obtain ⟨sl, e₁⟩ := hs₁.2.2 b o eb
   exact ⟨sl, keep b _ hb e₁⟩
  ·obtain ⟨sl, e₁⟩ := hs₁.2.2 b o eb
   refine ⟨sl, keep b _ hb e₁, fun hn => ?_⟩
   have := hs₁.2.1 b (ff.notFrame eb hn)
   rw [eb, e₁] at this
   injection this with this
   have := congrArg Obj.slots this
   exact this
  ·refine keep b o hb ((hs₁.2.1 b fun hm => ?_).trans eb)
   obtain ⟨env', he', hf'⟩ := List.mem_filterMap.mp hm
   obtain ⟨_, L', o', h1', h2', _⟩ := ff env' he'
   rw [h1'] at hf'; cases hf'
   rw [h2'] at eB; cases eB
  ·by_cases hb : b = e
   ·subst hb; exact ⟨_, Heap.get?_update_self _ he₂ (Obj.isFreed_of_fields (Obj.data_mapFields hd _))⟩
   ·obtain ⟨sl, e₁⟩ := hs₁.2.2 b o eb
    exact ⟨_, keep b _ hb e₁⟩
 ·have hTe : h₁.objs.size ≠ e := Nat.ne_of_gt (Heap.lt_size he₁)
  refine ⟨hne, _, _, h₁.objs.size, _, _, Heap.get?_update_self _ he₂ (Obj.isFreed_of_fields (Obj.data_mapFields hd _)), (Obj.cls_mapFields _ _).trans hc, (BL _ _).trans hdn, Obj.data_mapFields hd _, I2 h2, by simp [hsz], hTe, ?_, (Heap.get?_update_other _ _ (Ne.symm hTe)).trans (Heap.get?_push_size h₁ rfl), rfl, rfl, ?_⟩
  ·cases q : h.get? h₁.objs.size with
   | none => rfl
   | some o =>
    obtain ⟨o', e'⟩ := dom _ _ q
    obtain ⟨sl, e₁⟩ := hs₁.2.2 _ o' e'
    exact absurd (Heap.lt_size e₁) (Nat.lt_irrefl _)
  ·simp only [List.size_toArray, List.length_append, List.length_cons, List.length_nil]; lia
theorem Ch {g : Heap} {T : Addr} {f : Obj → Obj} {oT : Obj} {ts : Array Value} (hT : g.get? T = some oT) (hc : oT.cls = .type "traceback") (hd : oT.data = .fields ts) (hTn : h.get? T = none) (hfr : (f oT).isFreed = false) : KpE B h e g (g.update T f) := by
 have ne : ∀ b o, g.get? b = some o → (o.cls ≠ .type "traceback" ∨ ∃ o₀, h.get? b = some o₀) → T ≠ b := fun b o eb q hb => by
  subst hb
  rcases q with q | ⟨o₀, q⟩
  ·rw [hT] at eb; cases eb; exact q hc
  ·rw [hTn] at q; cases q
 refine ⟨fun b o eb _ q => ⟨o.slots, (Heap.get?_update_other _ _ (ne b o eb q)).trans eb, fun _ => rfl⟩, fun b o _ eb _ q => (Heap.get?_update_other _ _ (ne b o eb (.inr q))).trans eb, fun b o eb => ?_, fun b o es n eb hbd => ⟨o.slots, (Heap.get?_update_other _ _ (by rintro rfl; rw [hT] at eb; cases eb; rw [hd] at hbd; cases hbd)).trans eb⟩⟩
 by_cases hb : T = b
 ·subst hb; rw [hT] at eb; cases eb; exact ⟨_, Heap.get?_update_self _ hT hfr⟩
 ·exact ⟨o, (Heap.get?_update_other _ _ hb).trans eb⟩
theorem Wr {Q : Unit → Shared → Prop} (hfr : A.frames = some fs) (ff : FF B s.heap fs) (top : ∃ env₀ outer, fs = env₀ :: outer ∧ env.frame = env₀.frame)
  (fly : Fly h s.heap e C) (dom : ∀ b o, h.get? b = some o → ∃ o', s.heap.get? b = some o') (hQ : ∀ h', KpE B h e s.heap h' → FlyT h h' e C → Q () { s with heap := h' }) :
  wpAny M A (noteFrame (.ref e) env) Q E s := by
 obtain ⟨L, hf⟩ : ∃ L, env.frame = some L := by
  obtain ⟨env₀, outer, rfl, hee⟩ := top
  obtain ⟨_, L, _, h1, _⟩ := ff env₀ (.head _)
  exact ⟨L, hee.trans h1⟩
 obtain ⟨hne, oe, vs, he, hc, hdn, hd, h2, ht⟩ := fly
 unfold noteFrame
 simp only [hf]
 rcases ht with h1 | ⟨T, oT, ts, h1, hTe, hTn, hT, hcT, hdT, h3⟩
 ·refine wpAny_bind (wpAny_field he hd h1 ?_)
  rw [if_neg (by decide)]
  exact Es hfr ff top hf hne dom he hc hdn hd (Array.getElem?_eq_some_iff.mp h1).1 h2 hQ
 ·refine wpAny_bind (wpAny_field he hd h1 ?_)
  rw [if_pos (show (Value.ref T != Value.none) = true from by simp)]
  refine wpAny_bind (wpAny_field hT hdT (x := ts[3]) (by simp [h3]) ?_)
  by_cases hq : (ts[3] == rawInt L) = true
  ·rw [if_pos hq]
   exact wpAny_pure (hQ s.heap (.refl ..) ⟨hne, oe, vs, T, oT, ts, he, hc, hdn, hd, h2, h1, hTe, hTn, hT, hcT, hdT, h3⟩)
  ·rw [if_neg hq]
   refine wpAny_bind (wpAny_setField hT hdT h3 ?_)
   have kp : KpE B h e s.heap (s.heap.update T (Obj.mapFields (·.setIfInBounds 3 Value.none))) := Ch hT hcT hdT hTn (Obj.isFreed_of_fields (Obj.data_mapFields hdT _))
   refine Es (h := h) (fs := fs) (B := B) (s := { s with heap := s.heap.update T (Obj.mapFields (·.setIfInBounds 3 Value.none)) }) hfr (fun env' he' => ?_) top hf hne (fun b o q => ?_) ((Heap.get?_update_other _ _ hTe).trans he) hc hdn hd (Array.getElem?_eq_some_iff.mp h1).1 h2
    fun h' k f => hQ h' (kp.trans k) f
   ·obtain ⟨a, L', o, b, c, d, es, n, k⟩ := ff env' he'
    refine ⟨a, L', o, b, c, (Heap.get?_update_other _ _ ?_).trans d, es, n, k⟩
    rintro rfl
    rw [hT] at d; cases d; rw [hdT] at k; cases k
   ·obtain ⟨o', q'⟩ := dom b o q
    exact kp.dom b o' q'
theorem J2 {Q : Unit → Shared → Prop} {fr : Option Addr} (fly : FlyT h s.heap e C) (hQ : ∀ h', KpE B h e s.heap h' → FlyT h h' e C → Q () { s with heap := h' }) : wpAny M A (setFlight (.ref e) fr) Q E s := by
 obtain ⟨hne, oe, vs, T, oT, ts, he, hc, hdn, hd, h2, h1, hTe, hTn, hT, hcT, hdT, h3⟩ := fly
 unfold setFlight
 refine wpAny_bind (wpAny_field he hd h1 ?_)
 rw [if_pos (show (Value.ref T != Value.none) = true from by simp)]
 refine wpAny_setField hT hdT h3 (hQ _ (Ch hT hcT hdT hTn (Obj.isFreed_of_fields (Obj.data_mapFields hdT _))) ?_)
 refine ⟨hne, oe, vs, T, _, _, (Heap.get?_update_other _ _ hTe).trans he, hc, hdn, hd, h2, h1, hTe, hTn, Heap.get?_update_self _ hT (Obj.isFreed_of_fields (Obj.data_mapFields hdT _)), (Obj.cls_mapFields _ _).trans hcT, Obj.data_mapFields hdT _, by simp [h3]⟩
theorem Bd {Q : Unit → Shared → Prop} (hfr : A.frames = some fs) (ff : FF B s.heap fs) (top : ∃ env₀ outer, fs = env₀ :: outer ∧ env.frame = env₀.frame)
  (fly : Fly h s.heap e C) (dom : ∀ b o, h.get? b = some o → ∃ o', s.heap.get? b = some o') (hQ : ∀ h', KpE B h e s.heap h' → FlyT h h' e C → Q () { s with heap := h' }) :
  wpAny M A (leaving env (.ref e)) Q E s := by
 unfold leaving
 refine wpAny_bind (Wr hfr ff top fly dom fun h₁ k₁ f₁ => ?_)
 exact J2 (s := { s with heap := h₁ }) (B := B) f₁ fun h₂ k₂ f₂ => hQ h₂ (k₁.trans k₂) f₂
end
end Mine
end

section
set_option Elab.async false
set_option maxRecDepth 100000
namespace Mine
open PySem
theorem KpE.carry {B h g h' : Heap} {e C : Addr} {S : Addr → Prop} (k : KpE B h e g h') (f : Fly h g e C) (f' : FlyT h h' e C) : Carry S g S h' where
 tup := fun e' hc hd => by
  obtain ⟨_, oe, vs, he, _, _, hde, _⟩ := f
  obtain ⟨sl, q, hs⟩ := k.keep _ _ e' (by rintro rfl; rw [he] at e'; cases e'; rw [hde] at hd; cases hd) (.inl (by rw [hc]; simp))
  rw [hs (.seq hd)] at q; exact q
 list := fun s e' hc hd => by
  refine ⟨s, ?_⟩
  obtain ⟨_, oe, vs, he, _, _, hde, _⟩ := f
  obtain ⟨sl, q, hs⟩ := k.keep _ _ e' (by rintro rfl; rw [he] at e'; cases e'; rw [hde] at hd; cases hd) (.inl (by rw [hc]; simp))
  rw [hs (.seq hd)] at q; exact q
 range := fun e' => by
  obtain ⟨_, oe, vs, he, hce, _⟩ := f
  obtain ⟨sl, q, hs⟩ := k.keep _ _ e' (by rintro rfl; unfold IsRange at e'; rw [he] at e'; cases e'; cases hce) (.inl (by simp))
  have hs := hs (.fields rfl)
  simp only at hs
  subst hs
  exact q
 exc := fun {a} {o} {vs} {C'} e' hc hn hd r => by
  by_cases ha : a = e
  ·subst ha
   obtain ⟨_, oe, vs, he, hce, _⟩ := f
   rw [he] at e'; cases e'
   rw [hc] at hce; cases hce
   obtain ⟨_, oe', vs', _, _, _, h1, h2, hn', h3, h4, _⟩ := f'
   exact .exc h1 h2 hn' h3 h4
  ·obtain ⟨sl, q, hs⟩ := k.keep _ _ e' ha (.inl (by rw [hc]; simp))
   rw [hs (.fields hd)] at q
   exact .exc q hc hn hd r
 dom := fun a o e' => k.dom a o e'
 obj := fun {a dx C' m} s1 s2 e' n => by
  obtain ⟨_, oe, vs, he, _, _, hde, _⟩ := f
  obtain ⟨sl, q, hs⟩ := k.keep _ _ e' (by rintro rfl; rw [he] at e'; cases e'; cases hde) (.inl (by simp))
  have hs := hs (fun es m q => by cases q)
  simp only at hs
  subst hs
  obtain ⟨o, es, ep, ho, hd, r⟩ := n
  obtain ⟨sl, q'⟩ := k.kd _ _ _ _ ho hd
  exact ⟨s1, s2, q, _, es, ep, q', hd, r⟩
theorem RV.kpE {B h g h' : Heap} {e C : Addr} {S : Addr → Prop} (k : KpE B h e g h') (f : Fly h g e C) (f' : FlyT h h' e C) {v : Value} {d : D} (q : RV S g v d) : RV S h' v d := q.map (k.carry f f')
section
variable {G : Gd} {cx : Cx} {sc : Scope} {ρ ρ₀ : AEnv} {S S₀ : Addr → Prop} {h g h' : Heap} {e C : Addr}
theorem KpE.ns (k : KpE G.B h e g h') (f : Fly h g e C) {a : Addr} {m : Str → Option Value} (hk : ∃ o, h.get? a = some o) (n : g.Ns a m) : h'.Ns a m := by
 obtain ⟨o, es, ep, ho, hd, r⟩ := n
 obtain ⟨_, oe, vs, he, _, _, hde, _⟩ := f
 obtain ⟨sl, q, _⟩ := k.keep a o ho (by rintro rfl; rw [he] at ho; cases ho; rw [hde] at hd; cases hd) (.inr hk)
 exact ⟨_, es, ep, q, hd, r⟩
theorem KpE.cell (k : KpE G.B h e g h') (f : Fly h g e C) {a : Addr} {v : Option Value} (hk : ∃ o, h.get? a = some o) (n : g.IsCell a v) : h'.IsCell a v := by
 obtain ⟨o, ho, hd⟩ := n
 obtain ⟨_, oe, vs, he, _, _, hde, _⟩ := f
 obtain ⟨sl, q, _⟩ := k.keep a o ho (by rintro rfl; rw [he] at ho; cases ho; rw [hde] at hd; cases hd) (.inr hk)
 exact ⟨_, q, hd⟩
theorem Rel.var_kpE (r₀ : Rel G cx sc ρ₀ S₀ h) (k : KpE G.B h e g h') (f : Fly h g e C) {x : Str} {v : Value} (q : Var cx.env g x v) : Var cx.env h' x v := by
 rcases q with ⟨a, m, b, c⟩ | ⟨a, c, b, d⟩
 ·exact .inl ⟨a, m, k.ns f (let ⟨_, o, _, _, q, _⟩ := r₀.ns; ⟨o, q⟩) b, c⟩
 ·exact .inr ⟨a, c, b, k.cell f (let ⟨_, o, q, _⟩ := r₀.cells x c b; ⟨o, q⟩) d⟩
theorem Rel.var_back (r₀ : Rel G cx sc ρ₀ S₀ h) (r : Rel G cx sc ρ S g) (k : KpE G.B h e g h') (f : Fly h g e C) {x : Str} {v : Value} (q : Var cx.env h' x v) : Var cx.env g x v := by
 rcases q with ⟨a, m, b, c⟩ | ⟨a, c, b, d⟩
 ·obtain ⟨m₀, n₀⟩ := r.ns
  exact .inl ⟨a, m₀, n₀, by rw [(k.ns f (let ⟨_, o, _, _, q, _⟩ := r₀.ns; ⟨o, q⟩) n₀).agree b x]; exact c⟩
 ·obtain ⟨v₀, i₀⟩ := r.cells x c b
  exact .inr ⟨a, c, b, by rw [IsCell.inj d (k.cell f (let ⟨_, o, q, _⟩ := r₀.cells x c b; ⟨o, q⟩) i₀)]; exact i₀⟩
theorem Rel.kpE (r₀ : Rel G cx sc ρ₀ S₀ h) (r : Rel G cx sc ρ S g) (k : KpE G.B h e g h') (f : Fly h g e C) (f' : FlyT h h' e C) : Rel G cx sc ρ S h' where
 base := fun b o q => k.base b o q (r.base b o q) (by rintro rfl; have := r₀.base _ _ q; rw [f.1] at this; cases this) ⟨o, r₀.base b o q⟩
 keep := fun b o q => by
  obtain ⟨sl, q₁, k₁⟩ := r.keep b o q
  obtain ⟨o₀, q₀⟩ := r₀.keep.dom q
  obtain ⟨sl', q₂, k₂⟩ := k.keep b _ q₁ (by rintro rfl; rw [f.1] at q₀; cases q₀) (.inr ⟨o₀, q₀⟩)
  exact ⟨sl', q₂, fun hn => (k₂ hn).trans (k₁ hn)⟩
 ff := fun env he => by
  obtain ⟨a, L, o, b, c, d, es, n, q⟩ := r.ff env he
  obtain ⟨_, L', o₀, b', _, d', _⟩ := r₀.ff env he
  rw [b] at b'; cases b'
  obtain ⟨sl', q₂, k₂⟩ := k.keep L _ d (by rintro rfl; rw [f.1] at d'; cases d') (.inr ⟨o₀, d'⟩)
  exact ⟨a, L, _, b, c, q₂, es, n, q⟩
 ns := let ⟨m, n⟩ := r.ns; ⟨m, k.ns f (let ⟨_, o, _, _, q, _⟩ := r₀.ns; ⟨o, q⟩) n⟩
 cells := fun x c q => let ⟨v, n⟩ := r.cells x c q; ⟨v, k.cell f (let ⟨_, o, q', _⟩ := r₀.cells x c q; ⟨o, q'⟩) n⟩
 sdom := fun b q => let ⟨o, e⟩ := r.sdom b q; k.dom b o e
 sok := r.sok
 sloc := r.sloc
 scell := r.scell
 live := fun x a hd q => let ⟨o, e⟩ := r.live x a hd (r₀.var_back r k f q); k.dom a o e
 clean := r.clean
 hok := fun v q => let ⟨C, e⟩ := r.hok v q; ⟨C, RV.kpE k f f' e⟩
 vars := fun i x t hx ht => by
  obtain ⟨v, hv, tv⟩ := r.vars i x t hx ht
  refine ⟨v, r₀.var_kpE k f hv, ?_⟩
  cases t with
  | sh d => exact RV.kpE k f f' tv
  | ow m d =>
   obtain ⟨a, rfl, ns, ow, n⟩ := tv
   refine ⟨a, rfl, ns, ?_, n⟩
   rcases ow.cases with ow | ⟨ks, ds, rfl, ow⟩
   ·obtain ⟨o', e'', hcl, vs', n', hd'⟩ := ow.cls
    refine (ow.map (k.carry f f') fun o q hn => ?_).v
    rw [e''] at q; cases q
    obtain ⟨_, oe, ws, he, _, _, hde, _⟩ := f
    obtain ⟨sl, q', hs⟩ := k.keep _ _ e'' (by rintro rfl; rw [he] at e''; cases e''; rw [hde] at hd'; cases hd') (.inl (by rw [hcl]; simp))
    rw [hs hn] at q'; exact q'
   ·refine DictAt.map (k.carry f f') (fun o q => ?_) ow
    obtain ⟨o', es, nn, _, e'', _, hd', _⟩ := ow
    rw [e''] at q; cases q
    exact k.kd _ _ _ _ e'' hd'
 inj := fun i j x y m m' d d' v hx hy hi hj a b => r.inj i j x y m m' d d' v hx hy hi hj (r₀.var_back r k f a) (r₀.var_back r k f b)
 dok := r.dok.back fun _ _ q => r₀.var_back r k f q
theorem Ext.kpE (x : Ext S₀ h S g) (k : KpE G.B h e g h') (f : Fly h g e C) : Ext S₀ h S h' :=
 ⟨x.sub, fun b o eb q => by
  obtain ⟨sl, e₁, k₁⟩ := x.keep b o eb q
  obtain ⟨sl', e₂, k₂⟩ := k.keep b _ e₁ (by rintro rfl; rw [f.1] at eb; cases eb) (.inr ⟨o, eb⟩)
  exact ⟨sl', e₂, fun hn => (k₂ hn).trans (k₁ hn)⟩, fun b o eb => let ⟨o', e'⟩ := x.dom b o eb; k.dom b o' e'⟩
end
structure FnCx (G : Gd) (cx : Cx) : Prop where
 bh : G.B.StaysIn cx.h₀
 lnew : cx.h₀.get? cx.env.locals = none
 cap : ∀ x y c, cx.env.cells.lookup x = some c → cx.env.cells.lookup y = some c → cx.h₀.get? c = none → x = y
 loc : ∀ x c, cx.env.cells.lookup x = some c → c ≠ cx.env.locals
section
variable {G : Gd} {cx : Cx} {sc : Scope} {ρ : AEnv} {S : Addr → Prop} {h h' : Heap}
theorem FE {loc : Addr} {oL : Obj} (e : h.get? loc = some oL) (hi : ¬ Imm oL) (hs : ¬ S loc) (k : Heap.SameBut loc h h') (e' : ∃ o, h'.get? loc = some o) : Ext S h S h' :=
 ⟨fun _ q => q, fun b o eb q => ⟨o.slots, (k.2 b (by rintro rfl; rw [e] at eb; cases eb; exact q.elim hs hi)).trans eb, fun _ => rfl⟩, fun b o eb => by
  by_cases hb : b = loc
  ·subst hb; exact e'
  ·exact ⟨o, (k.2 b hb).trans eb⟩⟩
theorem Rel.store {loc : Addr} {oL : Obj} {i : Nat} {x : Str} {v : Value} {t : T} (r : Rel G cx sc ρ S h) (bh : G.B.StaysIn cx.h₀) (nd : (Qm sc).Nodup) (hx : (Qm sc)[i]? = some x)
  (e : h.get? loc = some oL) (hi : ¬ Imm oL) (hq : ∀ vs n, oL.data ≠ .seq vs n) (hs : ¬ S loc) (hn : cx.h₀.get? loc = none) (hdl : loc = cx.env.locals ∨ ∀ es n, oL.data ≠ .dict es n) (k : Heap.SameBut loc h h')
  (e' : ∃ o, h'.get? loc = some o ∧ ((∃ es n, oL.data = .dict es n) → ∃ es n, o.data = .dict es n)) (ns : ∃ m, h'.Ns cx.env.locals m) (cl : ∀ y c, cx.env.cells.lookup y = some c → ∃ v, h'.IsCell c v)
  (hv : Var cx.env h' x v) (hb : ∀ y w, y ≠ x → Var cx.env h y w → Var cx.env h' y w) (hf : ∀ y w, y ≠ x → Var cx.env h' y w → Var cx.env h y w) (hcl : Zr x = false ∨ ∃ d, t = .sh d) (tv : TSt cx S h v t) :
  Rel G cx sc (ρ.set i (some t)) S h' ∧ Ext S h S h' := by
 obtain ⟨oL', eL', dL'⟩ := e'
 have x' : Ext S h S h' := FE e hi hs k ⟨_, eL'⟩
 have ow' : ∀ {a d}, ((∃ ks ds, d = .dict ks ds) → a ≠ cx.env.locals) → Wx S h a d → Wx S h' a d := fun {a d} hal q => by
  have hne : a ≠ loc := by
   rintro rfl
   rcases q.cases with q | ⟨ks, ds, rfl, q⟩
   ·obtain ⟨o', ho', _, vs, n, hd⟩ := q.cls
    rw [e] at ho'; cases ho'; exact hq vs n hd
   ·rcases hdl with hdl | hdl
    ·exact hal ⟨_, _, rfl⟩ hdl
    ·obtain ⟨o', es, n, _, ho', _, hd, _⟩ := q
     rw [e] at ho'; cases ho'; exact hdl es n hd
  exact q.ext x' fun o eo => ⟨o.slots, (k.2 a hne).trans eo, fun _ => rfl⟩
 have lt : i < (Qm sc).length := (List.getElem?_eq_some_iff.mp hx).1
 have neName : ∀ (j : Nat) (y : Str), (Qm sc)[j]? = some y → j ≠ i → y ≠ x := fun j y hy hj q => by
  subst q
  obtain ⟨h1, e1⟩ := List.getElem?_eq_some_iff.mp hx
  obtain ⟨h2, e2⟩ := List.getElem?_eq_some_iff.mp hy
  exact hj ((List.getElem_inj nd).mp (e2.trans e1.symm))
 have live : ∀ a, v = .ref a → ∃ o, h.get? a = some o := fun a ea => by
  cases t with
  | sh d => exact RV.live tv a ea
  | ow m d => obtain ⟨b, rfl, _, ow, _⟩ := tv; cases ea; obtain ⟨o, ho, _⟩ := ow.live; exact ⟨o, ho⟩
 refine ⟨⟨fun b o q => (k.2 b (by rintro rfl; rw [bh _ _ q] at hn; cases hn)).trans (r.base b o q), fun b o q => ?_, fun env he => ?_, ns, cl, fun b q => let ⟨o, eo⟩ := r.sdom b q; x'.dom b o eo, r.sok, r.sloc, r.scell, fun y a hdy q => ?_, fun j y m d hy hj => ?_, fun v q => let ⟨C, e⟩ := r.hok v q; ⟨C, e.ext x'⟩, fun j y u hy hu => ?_, fun j l y z m m' d d' u hy hz hj hl a b => ?_, fun j y m ks ds hy hj hvy => ?_⟩, x'⟩
 rotate_right
 ·by_cases hji : j = i
  ·subst hji
   rw [hx] at hy; cases hy
   have hjl : j < ρ.length := by
    by_cases q : j < ρ.length
    ·exact q
    ·rw [List.getElem?_eq_none (by rw [List.length_set]; exact Nat.le_of_not_lt q)] at hj; cases hj
   rw [List.getElem?_set_self hjl] at hj; cases hj
   obtain ⟨a', rfl, _, _, _, _, hal⟩ := tv
   have := Var.inj hv hvy
   injection this with this
   exact hal ⟨_, _, rfl⟩ this
  ·rw [List.getElem?_set_ne (Ne.symm hji)] at hj
   exact r.dok j y m ks ds hy hj (hf y _ (neName j y hy hji) hvy)
 ·obtain ⟨sl, q₁, k₁⟩ := r.keep b o q
  exact ⟨sl, (k.2 b (by rintro rfl; rw [q] at hn; cases hn)).trans q₁, k₁⟩
 ·obtain ⟨a, L, o, b, c, d, es, n, q⟩ := r.ff env he
  by_cases hL : L = loc
  ·subst hL
   rw [e] at d; cases d
   obtain ⟨es', n', q'⟩ := dL' ⟨es, n, q⟩
   exact ⟨a, L, _, b, c, eL', es', n', q'⟩
  ·exact ⟨a, L, o, b, c, (k.2 L hL).trans d, es, n, q⟩
 ·by_cases hy : y = x
  ·subst hy
   obtain ⟨o, eo⟩ := live a (Var.inj hv q)
   exact x'.dom a o eo
  ·obtain ⟨o, eo⟩ := r.live y a hdy (hf y _ hy q)
   exact x'.dom a o eo
 ·by_cases hji : j = i
  ·subst hji
   rw [hx] at hy; cases hy
   rcases hcl with hcl | ⟨d', rfl⟩
   ·exact hcl
   ·have hjl : j < ρ.length := by
     by_cases q : j < ρ.length
     ·exact q
     ·rw [List.getElem?_eq_none (by rw [List.length_set]; exact Nat.le_of_not_lt q)] at hj; cases hj
    rw [List.getElem?_set_self hjl] at hj; cases hj
  ·rw [List.getElem?_set_ne (Ne.symm hji)] at hj
   exact r.clean j y m d hy hj
 ·by_cases hj : j = i
  ·subst hj
   rw [hx] at hy; cases hy
   by_cases hl : j < ρ.length
   ·rw [List.getElem?_set_self hl] at hu; cases hu
    refine ⟨v, hv, ?_⟩
    cases t with
    | sh d => exact RV.ext x' tv
    | ow m d => obtain ⟨a, rfl, n1, ow, n2, _, hal⟩ := tv; exact ⟨a, rfl, n1, ow' hal ow, fun _ => n2⟩
   ·rw [List.getElem?_eq_none (by rw [List.length_set]; exact Nat.le_of_not_lt hl)] at hu; cases hu
  ·rw [List.getElem?_set_ne (Ne.symm hj)] at hu
   obtain ⟨w, hw, tw⟩ := r.vars j y u hy hu
   refine ⟨w, hb y w (neName j y hy hj) hw, ?_⟩
   cases u with
   | sh d => exact RV.ext x' tw
   | ow m d =>
    obtain ⟨a, rfl, n1, ow, n2⟩ := tw
    refine ⟨a, rfl, n1, ow' ?_ ow, n2⟩
    rintro ⟨ks, ds, rfl⟩ rfl
    exact r.dok j y m ks ds hy hu hw
 ·by_cases hji : j = i <;> by_cases hli : l = i
  ·rw [hji, hli]
  ·exfalso
   subst hji
   rw [hx] at hy; cases hy
   rw [List.getElem?_set_ne (Ne.symm hli)] at hl
   have hjl : j < ρ.length := by
    by_cases q : j < ρ.length
    ·exact q
    ·rw [List.getElem?_eq_none (by rw [List.length_set]; exact Nat.le_of_not_lt q)] at hj; cases hj
   rw [List.getElem?_set_self hjl] at hj; cases hj
   obtain ⟨a', rfl, _, _, _, nv, _⟩ := tv
   rw [Var.inj a hv] at b
   exact nv z (r.clean l z m' d' hz hl) (hf z _ (neName l z hz hli) b)
  ·exfalso
   subst hli
   rw [hx] at hz; cases hz
   rw [List.getElem?_set_ne (Ne.symm hji)] at hj
   have hjl : l < ρ.length := by
    by_cases q : l < ρ.length
    ·exact q
    ·rw [List.getElem?_eq_none (by rw [List.length_set]; exact Nat.le_of_not_lt q)] at hl; cases hl
   rw [List.getElem?_set_self hjl] at hl; cases hl
   obtain ⟨a', rfl, _, _, _, nv, _⟩ := tv
   rw [Var.inj b hv] at a
   exact nv y (r.clean j y m d hy hj) (hf y _ (neName j y hy hji) a)
  ·rw [List.getElem?_set_ne (Ne.symm hji)] at hj
   rw [List.getElem?_set_ne (Ne.symm hli)] at hl
   exact r.inj j l y z m m' d d' u hy hz hj hl (hf y _ (neName j y hy hji) a) (hf z _ (neName l z hz hli) b)
theorem KO {i : Nat} {x : Str} {v : Value} {t : T} {s : Shared} (ok : CxOk G cx sc 0) (fn : FnCx G cx) (r : Rel G cx sc ρ S s.heap) (hx : (Qm sc)[i]? = some x) (hk : sc.names.lookup x = some .local ∨ (sc.names.lookup x = some .cell ∧ ∃ c, cx.env.cells.lookup x = some c ∧ cx.h₀.get? c = none)) (hcl : Zr x = false ∨ ∃ d, t = .sh d) (tv : TSt cx S s.heap v t) :
  QD G cx sc false (storeName cx.env x v) S s (fun _ _ _ (_ : Unit) => True) (.ok () (ρ.set i (some t))) := by
 intro Q E out
 have hkf : cx.env.scope.kind = .function := by rw [ok.hsc]; exact ok.hk
 have kd : ∀ y, cx.env.kindOf y = sc.names.lookup y := fun y => by unfold Env.kindOf; rw [ok.hsc]
 rcases hk with hk | ⟨hk, hc⟩
 ·obtain ⟨m, hm⟩ := r.ns
  have hm0 := hm
  obtain ⟨oL, es, ep, eL, dL, _⟩ := hm0
  refine wpAny_storeName_local ((kd x).trans hk) hm (fun h' n' k => ?_) (by rw [hkf]; rfl)
  have n'' := n'
  obtain ⟨oL', es', ep', eL', dL', _⟩ := n''
  have cellsame : ∀ y c, cx.env.cells.lookup y = some c → ∀ w, s.heap.IsCell c w → h'.IsCell c w := fun y c q w n => n.sameBut k (fn.loc y c q)
  have vx : Var cx.env h' x v := .inl ⟨(kd x).trans hk, _, n', by simp⟩
  obtain ⟨r', x'⟩ := r.store (loc := cx.env.locals) (i := i) (x := x) (v := v) (t := t) fn.bh ok.nodup hx eL (by rintro (⟨_, vs, n, q⟩ | ⟨vs, q⟩) <;> (rw [dL] at q; cases q)) (fun vs n q => by rw [dL] at q; cases q) r.sloc fn.lnew (.inl rfl) k
   ⟨oL', eL', fun _ => ⟨es', ep', dL'⟩⟩ ⟨_, n'⟩ (fun y c q => let ⟨w, n⟩ := r.cells y c q; ⟨w, cellsame y c q w n⟩) vx
   (fun y w hy q => by
    rcases q with ⟨a, m₁, b, c⟩ | ⟨a, c, b, d⟩
    ·refine .inl ⟨a, _, n', ?_⟩
     rw [if_neg hy, ← b.agree hm y]; exact c
    ·exact .inr ⟨a, c, b, cellsame y c b _ d⟩)
   (fun y w hy q => by
    rcases q with ⟨a, m₁, b, c⟩ | ⟨a, c, b, d⟩
    ·refine .inl ⟨a, m, hm, ?_⟩
     have := b.agree n' y
     rw [if_neg hy] at this
     rw [← this]; exact c
    ·obtain ⟨w₀, n₀⟩ := r.cells y c b
     exact .inr ⟨a, c, b, by rw [IsCell.inj d (cellsame y c b _ n₀)]; exact n₀⟩) hcl tv
  exact out () h' _ S r' trivial x' fun q => by cases q
 ·obtain ⟨c, hc, hcn⟩ := hc
  obtain ⟨w₀, n₀⟩ := r.cells x c hc
  have n₁ := n₀
  obtain ⟨oL, eL, dL⟩ := n₁
  refine wpAny_storeName_cell hkf ((kd x).trans hk) hc n₀ (fun h' n' k => ?_)
  have n'' := n'
  obtain ⟨oL', eL', dL'⟩ := n''
  have hcloc : c ≠ cx.env.locals := fn.loc x c hc
  have nsame : ∀ m, s.heap.Ns cx.env.locals m → h'.Ns cx.env.locals m := fun m n => n.sameBut k (Ne.symm hcloc)
  have cellsame : ∀ y c', y ≠ x → cx.env.cells.lookup y = some c' → ∀ w, s.heap.IsCell c' w → h'.IsCell c' w := fun y c' hy q w n => n.sameBut k (by rintro rfl; exact hy (fn.cap y x c' q hc hcn))
  obtain ⟨r', x'⟩ := r.store (loc := c) (i := i) (x := x) (v := v) (t := t) fn.bh ok.nodup hx eL (by rintro (⟨_, vs, n, q⟩ | ⟨vs, q⟩) <;> (rw [dL] at q; cases q)) (fun vs n q => by rw [dL] at q; cases q) (r.scell x c hc) hcn (.inr fun es n q => by rw [dL] at q; cases q) k
   ⟨oL', eL', fun q => by obtain ⟨_, _, q⟩ := q; rw [dL] at q; cases q⟩ (let ⟨m, n⟩ := r.ns; ⟨m, nsame m n⟩)
   (fun y c' q => by
    by_cases hy : y = x
    ·subst hy; rw [hc] at q; cases q; exact ⟨_, n'⟩
    ·obtain ⟨w, n⟩ := r.cells y c' q; exact ⟨w, cellsame y c' hy q w n⟩) (.inr ⟨.inl ((kd x).trans hk), c, hc, n'⟩)
   (fun y w hy q => by
    rcases q with ⟨a, m₁, b, c'⟩ | ⟨a, c', b, d⟩
    ·exact .inl ⟨a, m₁, nsame m₁ b, c'⟩
    ·exact .inr ⟨a, c', b, cellsame y c' hy b _ d⟩)
   (fun y w hy q => by
    rcases q with ⟨a, m₁, b, c'⟩ | ⟨a, c', b, d⟩
    ·obtain ⟨m₀, n₀⟩ := r.ns
     refine .inl ⟨a, m₀, n₀, ?_⟩
     rw [(nsame m₀ n₀).agree b y]; exact c'
    ·obtain ⟨w₀, n₀⟩ := r.cells y c' b
     exact .inr ⟨a, c', b, by rw [IsCell.inj d (cellsame y c' hy b _ n₀)]; exact n₀⟩) hcl tv
  exact out () h' s.toks S r' trivial x' fun q => by cases q
end
end Mine
end

section
set_option Elab.async false
set_option maxRecDepth 100000
namespace Mine
open PySem
inductive Fl where
 | next
 | brk
 | cont
 | ret (t : T)
noncomputable def IO (cx : Cx) (S : Addr → Prop) (h : Heap) (v : Value) : T → Prop
 | .sh d => RV S h v d
 | .ow _ d => ∃ a, v = .ref a ∧ ¬ S a ∧ ZJ S h a d ∧ cx.h₀.get? a = none
theorem Ul.ret {cx : Cx} {S : Addr → Prop} {h : Heap} {v : Value} {t : T} (q : Ul cx S h v t) : IO cx S h v t := by
 cases t with
 | sh d => exact q
 | ow m d => obtain ⟨a, e, n, o, k, _⟩ := q; exact ⟨a, e, n, o, k⟩
noncomputable def FlJ (cx : Cx) (S : Addr → Prop) (h : Heap) : Flow → Fl → Prop
 | .next, .next => True
 | .brk, .brk => True
 | .cont, .cont => True
 | .ret v, .ret t => IO cx S h v t
 | _, _ => False
structure FnOk (G : Gd) (cx : Cx) : Prop extends FnCx G cx where
 has : ∀ x, cx.env.kindOf x = some .cell → ∃ c, cx.env.cells.lookup x = some c ∧ cx.h₀.get? c = none
noncomputable def Jk (G : Gd) (k : Nat) (sc : Scope) (st : Stmt) (f : AEnv → Res Fl) : Prop :=
 ∀ cx, CxOk G cx sc k → FnOk G cx → ∀ ρ S s, Rel G cx sc ρ S s.heap → QD G cx sc false (exec st cx.env) S s (fun S' h' a b => FlJ cx S' h' a b) (f ρ)
noncomputable def UB (G : Gd) (k : Nat) (sc : Scope) (sts : List Stmt) (f : AEnv → Res Fl) : Prop :=
 ∀ cx, CxOk G cx sc k → FnOk G cx → ∀ ρ S s, Rel G cx sc ρ S s.heap → QD G cx sc false (execs sts cx.env) S s (fun S' h' a b => FlJ cx S' h' a b) (f ρ)
noncomputable def Qy : AEnv → Res Fl := fun ρ => .ok .next ρ
noncomputable def Qo (f g : AEnv → Res Fl) : AEnv → Res Fl := fun ρ => (f ρ).bind fun fl ρ₁ => match fl with
 | .next => g ρ₁
 | fl => .ok fl ρ₁
noncomputable def sIf (t : AEnv → Res Bool) (a b : AEnv → Res Fl) : AEnv → Res Fl := fun ρ => (t ρ).bind fun c ρ₁ => if c then a ρ₁ else b ρ₁
noncomputable def XS (f : AEnv → Res T) : AEnv → Res Fl := fun ρ => (f ρ).bind fun t ρ₁ => .ok (.ret t) ρ₁
noncomputable def JX (i : Nat) : AEnv → Res Fl := fun ρ => match ρ[i]? with
 | some (some (.sh d)) => .ok (.ret (.sh d)) ρ
 | some (some (.ow true (.list ds))) => .ok (.ret (.ow true (.list ds))) ρ
 | _ => .stuck
noncomputable def XF (f : AEnv → Res Bv) : AEnv → Res Fl := fun ρ => (f ρ).bind fun _ ρ₁ => .ok .next ρ₁
noncomputable def Qx (i : Nat) (f : AEnv → Res T) : AEnv → Res Fl := fun ρ => (f ρ).bind fun t ρ₁ => .ok .next (ρ₁.set i (some t))
section
variable {G : Gd} {k : Nat} {sc : Scope}
theorem Qf : UB G k sc [] Qy := fun _ _ _ _ _ _ r => QD.pure r trivial
theorem Qa {st : Stmt} {rest : List Stmt} {f g : AEnv → Res Fl} (h1 : Jk G k sc st f) (h2 : UB G k sc rest g) : UB G k sc (st :: rest) (Qo f g) := by
 intro cx ok fn ρ S s r
 rw [execs_cons]
 refine QD.bind (h1 cx ok fn ρ S s r) fun fl ρ₁ a h₁ t₁ S₁ _ r₁ j x₁ v₁ => ?_
 cases a <;> cases fl <;> first | exact j.elim | exact h2 cx ok fn ρ₁ S₁ _ r₁ | exact QD.pure r₁ j
theorem Xm {test : Expr} {body orelse : List Stmt} {pos : Pos} {t : AEnv → Res Bool} {a b : AEnv → Res Fl} (ht : Kk G k sc test t) (ha : UB G k sc body a) (hb : UB G k sc orelse b) : Jk G k sc (.If test body orelse pos) (sIf t a b) := by
 intro cx ok fn ρ S s r
 rw [exec_If]
 refine QD.standAt (QD.bind (ht cx ok ρ S s r).loose fun c ρ₁ a' h₁ t₁ S₁ _ r₁ j x₁ v₁ => ?_)
 subst j
 cases a'
 ·exact hb cx ok fn ρ₁ S₁ _ r₁
 ·exact ha cx ok fn ρ₁ S₁ _ r₁
theorem Qs {e : Expr} {pos : Pos} {f : AEnv → Res T} (h : Sim G k sc e f) : Jk G k sc (.Return (some e) pos) (XS f) := by
 intro cx ok fn ρ S s r
 rw [exec_Return_some]
 refine QD.standAt (QD.bind (h cx ok ρ S s r).loose fun t ρ₁ v h₁ t₁ S₁ _ r₁ j x₁ v₁ => ?_)
 exact QD.pure r₁ j.ret
set_option tactic.hygienic true in
theorem BJ {x : Str} {p pos : Pos} {i : Nat} (hx : (Qm sc)[i]? = some x) (hd : (x == ("__debug__" : Str)) = false) (hn : (x == ("__classdict__" : Str)) = false) : Jk G k sc (.Return (some (.Name x p)) pos) (JX i) := by
 intro cx ok fn ρ S s r
 rw [exec_Return_some]
 refine QD.standAt ?_
 intro Q E out
 unfold JX at out
 split at out
 ·rename_i d ht
  obtain ⟨v, hv, tv⟩ := r.vars i x _ hx ht
  exact wpAny_bind (wpAny_Name (Ze (ok.mono (Nat.zero_le _)) hv hn rfl (wpAny_pure (out (.ret v) s.heap s.toks S r tv (Ext.refl ..) fun _ => QR.refl _ _))) hd)
 ·rename_i d ht
  obtain ⟨v, hv, a, rfl, n1, ow, n2⟩ := r.vars i x _ hx ht
  exact wpAny_bind (wpAny_Name (Ze (ok.mono (Nat.zero_le _)) hv hn rfl (wpAny_pure (out (.ret (.ref a)) s.heap s.toks S r ⟨a, rfl, n1, ow, n2 rfl⟩ (Ext.refl ..) fun _ => QR.refl _ _))) hd)
 ·exact out.elim
theorem UW {e : Expr} {pos : Pos} {f : AEnv → Res Bv} (h : Qh G k sc e f) (hs : ∀ env : Env, swapsWith e none pos.line env = pure false) : Jk G k sc (.Expr e pos) (XF f) := by
 intro cx ok fn ρ S s r Q E out
 refine wpAny_Expr_any ?_ (by unfold interactive; rw [ok.hsc, ok.hk]; rfl) (hs cx.env)
 refine h cx ok ρ S s r _ _ ?_
 unfold XF at out
 cases hf : f ρ with
 | stuck => rw [hf] at out; exact out
 | exc C ρ' => rw [hf] at out; exact out
 | ok t ρ' => rw [hf] at out; intro v h' tk S' rel j x vs; exact out .next h' tk S' rel trivial x fun q => by cases q
theorem UU {cx : Cx} {ρ : AEnv} {S : Addr → Prop} {i : Nat} {x : Str} {v : Value} {t : T} {s : Shared} (ok : CxOk G cx sc 0) (fn : FnOk G cx) (r : Rel G cx sc ρ S s.heap) (hx : (Qm sc)[i]? = some x) (hk : sc.names.lookup x = some .local ∨ sc.names.lookup x = some .cell) (hcl : Zr x = false ∨ ∃ d, t = .sh d) (tv : TSt cx S s.heap v t) :
  QD G cx sc false (bindName cx.env x v) S s (fun _ _ _ (_ : Unit) => True) (.ok () (ρ.set i (some t))) := by
 refine (KO ok fn.toFnCx r hx (hk.imp id fun q => ⟨q, fn.has x (by unfold Env.kindOf; rw [ok.hsc]; exact q)⟩) hcl tv).wp fun Q E h => wpAny_bindName h
theorem Ec {x : Str} {p pos : Pos} {value : Expr} {i : Nat} {f : AEnv → Res T} (h : Sim G k sc value f) (hx : (Qm sc)[i]? = some x) (hk : sc.names.lookup x = some .local ∨ sc.names.lookup x = some .cell)
  (hcl : Zr x = false) (hs : ∀ env : Env, env.scope = sc → swapsWith value (some (.Name x p)) pos.line env = pure false) : Jk G k sc (.Assign [.Name x p] value pos) (Qx i f) := by
 intro cx ok fn ρ S s r
 rw [exec_Assign_Name _ _ _ _ _ (hs cx.env ok.hsc)]
 refine QD.standAt (QD.bind (h cx ok ρ S s r).loose fun t ρ₁ v h₁ t₁ S₁ _ r₁ j x₁ v₁ => ?_)
 refine QD.standAt ?_
 intro Q E out
 refine wpAny_bind (UU (s := { s with heap := h₁, toks := t₁ }) (ok.mono (Nat.zero_le _)) fn r₁ hx hk (.inl hcl) j.st _ _ ?_)
 intro _ h₂ t₂ S₂ r₂ _ x₂ v₂
 exact wpAny_pure (out .next h₂ t₂ S₂ r₂ trivial x₂ v₂)
end
noncomputable def UJ (t : AEnv → Res Bool) (b : AEnv → Res Fl) : Nat → AEnv → Res Fl
 | 0, _ => .stuck
 | n + 1, ρ => (t ρ).bind fun c ρ₁ => if c then (b ρ₁).bind fun fl ρ₂ => (match fl with
   | .next => UJ t b n ρ₂
   | .cont => UJ t b n ρ₂
   | .brk => .ok .next ρ₂
   | .ret t => .ok (.ret t) ρ₂) else .ok .next ρ₁
noncomputable def BP (n : Nat) (t : AEnv → Res Bool) (b : AEnv → Res Fl) : AEnv → Res Fl := UJ t b n
section
variable {G : Gd} {k : Nat} {sc : Scope} {cx : Cx} {ρ ρ₀ : AEnv} {S S₀ : Addr → Prop} {s₀ s : Shared}
theorem Gg {C e : Addr} {E : Value → Shared → Prop} (ok : CxOk G cx sc k) (r₀ : Rel G cx sc ρ₀ S₀ s₀.heap) (r : Rel G cx sc ρ S s.heap) (x : Ext S₀ s₀.heap S s.heap) (f : Fly s₀.heap s.heap e C) (hs : ∃ h tk, s = { s₀ with heap := h, toks := tk })
  (hE : ∀ h' tk, Rel G cx sc ρ S h' → FlyT s₀.heap h' e C → Ext S₀ s₀.heap S h' → E (.ref e) { s₀ with heap := h', toks := tk }) : notedBy G.M cx.A cx.env E (.ref e) s := by
 obtain ⟨h, tk, rfl⟩ := hs
 unfold notedBy
 exact Wr (B := G.B) ok.fr r.ff ok.top f x.dom fun h' k' f' => hE h' tk (r₀.kpE r k' f f') f' (x.kpE k' f)
theorem Hl {C e : Addr} {E : Value → Shared → Prop} (r₀ : Rel G cx sc ρ₀ S₀ s₀.heap) (r : Rel G cx sc ρ S s.heap) (x : Ext S₀ s₀.heap S s.heap) (f : FlyT s₀.heap s.heap e C) (hs : ∃ h tk, s = { s₀ with heap := h, toks := tk })
  (hE : ∀ h' tk, Rel G cx sc ρ S h' → FlyT s₀.heap h' e C → Ext S₀ s₀.heap S h' → E (.ref e) { s₀ with heap := h', toks := tk }) : cameBackBy G.M cx.A cx.env E (.ref e) s := by
 obtain ⟨h, tk, rfl⟩ := hs
 unfold cameBackBy
 have f0 := f
 obtain ⟨_, oe, vs, T, oT, ts, he, _, _, hd, _, h1, _⟩ := f0
 refine wpAny_bind (wpAny_field he hd h1 ?_)
 rw [if_neg (by simp)]
 exact J2 (B := G.B) f fun h' k' f' => hE h' tk (r₀.kpE r k' f.fly f') f' (x.kpE k' f.fly)
theorem DC {C e : Addr} {ρ' : AEnv} {h' : Heap} {tk : Nat} {S' : Addr → Prop} {Q : Flow → Shared → Prop} {E : Value → Shared → Prop} (ok : CxOk G cx sc k) (r : Rel G cx sc ρ S s.heap) (o : Out G cx sc false S s (fun S' h' a b => FlJ cx S' h' a b) Q E (.exc C ρ')) (r' : Rel G cx sc ρ' S' h') (f' : Fly s.heap h' e C) (x' : Ext S s.heap S' h') : notedBy G.M cx.A cx.env (fun e s' => cameBackBy G.M cx.A cx.env E e s') (.ref e) { s with heap := h', toks := tk } :=
 Gg ok r r' x' f' ⟨h', tk, rfl⟩ fun h₂ t₂ r₂ f₂ x₂ => Hl r r₂ x₂ f₂ ⟨h₂, t₂, rfl⟩ fun h₃ t₃ r₃ f₃ x₃ => o e h₃ t₃ S' r₃ f₃.fly x₃
theorem Out.stepE {α β γ δ : Type} {same same₁ : Bool} {S₁ : Addr → Prop} {h₁ : Heap} {t₁ : Nat} {J : (Addr → Prop) → Heap → α → β → Prop} {J' : (Addr → Prop) → Heap → γ → δ → Prop} {Q : γ → Shared → Prop} {E EN : Value → Shared → Prop} {Q₁ : α → Shared → Prop} {r : Res β} {g : β → AEnv → Res δ} (out : Out G cx sc same S s J' Q E (r.bind g)) (x : Ext S s.heap S₁ h₁)
  (err : ∀ C ρ', Out G cx sc same S s J' Q E (.exc C ρ') → ∀ e h' tk S', Rel G cx sc ρ' S' h' → Fly s.heap h' e C → Ext S s.heap S' h' → EN (.ref e) { s with heap := h', toks := tk })
  (H : ∀ b ρ, Out G cx sc same S s J' Q E (g b ρ) → ∀ a h' tk S', Rel G cx sc ρ S' h' → J S' h' a b → Ext S₁ h₁ S' h' → (same₁ = true → QR cx.env h₁ h') → Q₁ a { s with heap := h', toks := tk }) :
  Out G cx sc same₁ S₁ { s with heap := h₁, toks := t₁ } J Q₁ EN r := by
 cases r with
 | stuck => exact out
 | exc C ρ => exact fun e h' tk S' r' f' x' => err C ρ out e h' tk S' r' (f'.back x) (x.trans x')
 | ok b ρ => exact H b ρ out
inductive WInv (G : Gd) (cx : Cx) (sc : Scope) (S : Addr → Prop) (P : Nat → AEnv → Prop) (s : Shared) : Nat → Shared → Prop
 | mk {m : Nat} {ρ' : AEnv} {S' : Addr → Prop} {h' : Heap} {tk : Nat} : Rel G cx sc ρ' S' h' → Ext S s.heap S' h' → P m ρ' → WInv G cx sc S P s m { s with heap := h', toks := tk }
set_option tactic.hygienic true in
theorem EB {test : Expr} {body : List Stmt} {pos : Pos} {n : Nat} {t : AEnv → Res Bool} {b : AEnv → Res Fl} (ht : Kk G k sc test t) (hb : UB G k sc body b) : Jk G k sc (.While test body [] pos) (BP n t b) := by
 intro cx ok fn ρ S s r Q E out
 refine wpAny_While ?_
 obtain ⟨Inv, hI, hC⟩ : ∃ Inv : Nat → Shared → Prop, (∀ m s', WInv G cx sc S (fun m ρ' => Out G cx sc false S s (fun S' h' a b => FlJ cx S' h' a b) Q E (UJ t b m ρ')) s m s' → Inv m s') ∧ ∀ m s', Inv m s' → WInv G cx sc S (fun m ρ' => Out G cx sc false S s (fun S' h' a b => FlJ cx S' h' a b) Q E (UJ t b m ρ')) s m s' := ⟨_, fun _ _ q => q, fun _ _ q => q⟩
 refine codeAny_whileLoop Inv ?_ n (hI _ _ (.mk (tk := s.toks) r (Ext.refl ..) out))
 have err : ∀ C ρ', Out G cx sc false S s (fun S' h' a b => FlJ cx S' h' a b) Q E (.exc C ρ') → ∀ e h' tk S', Rel G cx sc ρ' S' h' → Fly s.heap h' e C → Ext S s.heap S' h' → notedBy G.M cx.A cx.env (fun e s' => cameBackBy G.M cx.A cx.env E e s') (.ref e) { s with heap := h', toks := tk } := fun C ρ' o e h' tk S' r' f' x' => DC ok r o r' f' x'
 generalize (notedBy G.M cx.A cx.env fun e s' => cameBackBy G.M cx.A cx.env E e s') = EN at err ⊢
 intro m s' hinv
 cases hC m s' hinv with
 | mk r' x' out' =>
 rename_i ρ' S' h' tk'
 cases m with
 | zero => exact out'.elim
 | succ m =>
  refine (ht cx ok ρ' S' { s with heap := h', toks := tk' } r').loose (same := false) _ _ (Out.stepE (s := s) out' x' err fun c ρ₁ out' a h₁ t₁ S₁ r₁ j₁ x₁ _ => ?_)
  subst j₁
  cases a with
  | false => exact wpAny_pure (out' .next h₁ t₁ S₁ r₁ trivial (x'.trans x₁) fun q => by cases q)
  | true =>
   refine hb cx ok fn ρ₁ S₁ { s with heap := h₁, toks := t₁ } r₁ _ _ (Out.stepE (s := s) out' (x'.trans x₁) err fun fl ρ₂ out' a h₂ t₂ S₂ r₂ j₂ x₂ _ => ?_)
   have xx := (x'.trans x₁).trans x₂
   cases a <;> cases fl <;> first
    | exact j₂.elim
    | exact ⟨m, Nat.lt_succ_self _, hI _ _ (.mk (tk := t₂) r₂ xx out')⟩
    | exact out' _ h₂ t₂ S₂ r₂ j₂ xx fun q => by cases q
end
end Mine
end

section
set_option Elab.async false
set_option maxRecDepth 100000
namespace Mine
open PySem
inductive FOut where
 | ok (t : T)
 | exc (C : Addr)
 | stuck
noncomputable def EU (S : Addr → Prop) (h : Heap) : Prop := ∀ b, S b → ∃ o, h.get? b = some o
noncomputable def L8 (h : Heap) (S : Addr → Prop) (h' : Heap) (v : Value) : T → Prop
 | .sh d => RV S h' v d
 | .ow _ d => ∃ a, v = .ref a ∧ h.get? a = none ∧ ¬ S a ∧ ZJ S h' a d
noncomputable def L9 (G : Gd) (S : Addr → Prop) (s : Shared) (R : Result → Shared → Prop) : FOut → Prop
 | .ok t => ∀ v h' tk S', Kp s.heap h' → G.B.StaysIn h' → (∀ b, S b → S' b) → (∀ b, S' b → S b ∨ s.heap.get? b = none) → EU S' h' → L8 s.heap S' h' v t → R (.ok (.ret v)) { s with heap := h', toks := tk }
 | .exc C => ∀ e h' tk, Kp s.heap h' → G.B.StaysIn h' → FlyT s.heap h' e C → R (.error (.ref e)) { s with heap := h', toks := tk }
 | .stuck => False
noncomputable def Zy (G : Gd) (k : Nat) (g : Value) (F : List D → FOut) : Prop :=
 ∀ (A : Around) (fs : List Env) (S : Addr → Prop) (s : Shared) (vs : List Value) (ds : List D), Dv A k → A.frames = some fs → (G.quiet = true → A.handled = none) → (∀ v, A.handled = some v → ∃ C, RV S s.heap v (.exc C)) → FF G.B s.heap fs → G.B.StaysIn s.heap → EU S s.heap → RVs S s.heap vs ds →
  ∀ R, L9 G S s R (F ds) → codeAny G.M A (.call g ⟨vs, []⟩) R s
noncomputable def Y9 (sc : Scope) (ps : List Str) (ds : List D) : AEnv := (Qm sc).map fun x => ((ps.zip ds).lookup x).map T.sh
noncomputable def GM : Res Fl → FOut
 | .ok (.ret t) _ => .ok t
 | .ok .next _ => .ok (.sh .none)
 | .ok _ _ => .stuck
 | .exc C _ => .exc C
 | .stuck => .stuck
noncomputable def IL (sc : Scope) (ps : List Str) (f : AEnv → Res Fl) (ds : List D) : FOut := if ds.length = ps.length then GM (f (Y9 sc ps ds)) else .stuck
theorem Br (K : Str → Option NameKind) : ∀ (binds : List (Str × Value)) (m : Str → Option Value) (y : Str), (binds.map (·.1)).Nodup → bindL K binds m y = if K y = some .local then (match binds.lookup y with | some v => some v | none => m y) else m y
 | [], m, y, _ => by simp [bindL]
 | (n, v) :: r, m, y, nd => by
  have nd' : n ∉ r.map (·.1) ∧ (r.map (·.1)).Nodup := by simpa using nd
  rw [bindL, Br K r _ y nd'.2]
  by_cases hy : y = n
  ·subst hy
   have hn : r.lookup y = none := by
    rw [List.lookup_eq_none_iff]
    intro p hp
    have : p.1 ≠ y := fun q => nd'.1 (q ▸ List.mem_map_of_mem (f := (·.1)) hp)
    simpa using this.symm
   by_cases hk : K y = some .local
   ·simp [hk, hn, List.lookup_cons]
   ·simp [hk]
  ·have hb : (y == n) = false := by simpa using hy
   by_cases hk : K y = some .local
   ·rw [if_pos hk, if_pos hk, List.lookup_cons, hb]
    cases r.lookup y with
    | some w => rfl
    | none =>
     simp only
     split
     ·simp [hy]
     ·rfl
   ·rw [if_neg hk, if_neg hk]
    split
    ·simp [hy]
    ·rfl
theorem VR (K : Str → Option NameKind) : ∀ (binds : List (Str × Value)) (m : Str → Option Value) (y : Str), (binds.map (·.1)).Nodup → bindC K binds m y = if K y = some .local then m y else (match binds.lookup y with | some v => some v | none => m y)
 | [], m, y, _ => by simp [bindC]
 | (n, v) :: r, m, y, nd => by
  have nd' : n ∉ r.map (·.1) ∧ (r.map (·.1)).Nodup := by simpa using nd
  rw [bindC, VR K r _ y nd'.2]
  by_cases hy : y = n
  ·subst hy
   have hn : r.lookup y = none := by
    rw [List.lookup_eq_none_iff]
    intro p hp
    have : p.1 ≠ y := fun q => nd'.1 (q ▸ List.mem_map_of_mem (f := (·.1)) hp)
    simpa using this.symm
   by_cases hk : K y = some .local
   ·simp [hk]
   ·simp [hk, hn, List.lookup_cons]
  ·have hb : (y == n) = false := by simpa using hy
   by_cases hk : K y = some .local
   ·rw [if_pos hk, if_pos hk]
    split
    ·rfl
    ·simp [hy]
   ·rw [if_neg hk, if_neg hk, List.lookup_cons, hb]
    cases r.lookup y with
    | some w => rfl
    | none =>
     simp only
     split
     ·rfl
     ·simp [hy]
theorem V8 {S : Addr → Prop} {h : Heap} {y : Str} : ∀ {ps : List Str} {vs : List Value} {ds : List D}, RVs S h vs ds → ∀ {d : D}, (ps.zip ds).lookup y = some d → ∃ v, (ps.zip vs).lookup y = some v ∧ RV S h v d
 | [], _, _, _, d, e => by simp at e
 | p :: ps, _, _, .nil, d, e => by simp at e
 | p :: ps, _, _, .cons (v := v) q r, d, e => by
  rw [List.zip_cons_cons, List.lookup_cons] at e ⊢
  cases hb : y == p with
  | true => rw [hb] at e; cases e; exact ⟨v, rfl, q⟩
  | false => rw [hb] at e; exact V8 r e
theorem VH {y : Str} {v : Value} : ∀ {ps : List Str} {vs : List Value}, (ps.zip vs).lookup y = some v → v ∈ vs ∧ y ∈ ps
 | [], _, e => by simp at e
 | _ :: _, [], e => by simp at e
 | p :: ps, w :: vs, e => by
  rw [List.zip_cons_cons, List.lookup_cons] at e
  cases hb : y == p with
  | true => rw [hb] at e; cases e; exact ⟨.head _, by rw [beq_iff_eq.mp hb]; exact .head _⟩
  | false => rw [hb] at e; have := VH e; exact ⟨.tail _ this.1, .tail _ this.2⟩
theorem Wg {α β : Type} : ∀ (ps : List α) (vs : List β), vs.length = ps.length → (ps.zip vs).map (·.1) = ps
 | [], [], _ => rfl
 | p :: ps, v :: vs, h => by rw [List.zip_cons_cons, List.map_cons, Wg ps vs (by simpa using h)]
 | [], _ :: _, h => by simp at h
 | _ :: _, [], h => by simp at h
set_option tactic.hygienic true in
theorem Jr {x : Str} : ∀ (names : List (Str × NameKind)) (n : Nat) (acc : List (Str × Addr)), names.lookup x = some .cell ∨ (acc.lookup x).isSome = true → ((cellsFrom n names acc).lookup x).isSome = true
 | [], _, _, h => h.elim (fun e => by cases e) id
 | (y, k) :: r, n, acc, h => by
  unfold cellsFrom
  split
  ·rename_i hk
   refine Jr r (n + 1) ((y, n) :: acc) ?_
   cases hy : x == y with
   | true => exact .inr (by rw [List.lookup_cons, hy]; rfl)
   | false =>
    rcases h with h | h
    ·rw [List.lookup_cons, hy] at h; exact .inl h
    ·exact .inr (by rw [List.lookup_cons, hy]; exact h)
  ·rename_i hk
   refine Jr r n acc ?_
   cases hy : x == y with
   | true =>
    rcases h with h | h
    ·rw [List.lookup_cons, hy] at h
     exact absurd (by rw [Option.some.inj h]; rfl) hk
    ·exact .inr h
   | false =>
    rcases h with h | h
    ·rw [List.lookup_cons, hy] at h; exact .inl h
    ·exact .inr h
theorem IU {G : Gd} (hG : G.Ok) {k : Nat} {a : Addr} {fo : Obj} {fd : FuncData} {body : List Stmt} {ps : List Str} (hfo : G.B.get? a = some fo) (hfd : fo.data = .func fd) (hcode : G.B.CodeRec fd.code fd.qualname) (hbody : fd.body = .stmts body) (hclo : fd.closure = [])
  (hgl : fd.globals = mainGlobals) (hbl : fd.builtins = builtinsNs) (hbind : ∀ vs : List Value, vs.length = ps.length → bindArgs fd ⟨vs, []⟩ = pure (ps.zip vs))
  (hps : ∀ x ∈ ps, fd.scope.names.lookup x = some .local ∨ fd.scope.names.lookup x = some .cell) (hpn : ps.Nodup) (hnd : (Qm fd.scope).Nodup) (hkind : fd.scope.kind = .function) (hco : fd.scope.isCoroutine = false) (hgen : fd.scope.isGenerator = false)
  {A : Around} {fs : List Env} {S : Addr → Prop} {s : Shared} {vs : List Value} {ds : List D} {R : Result → Shared → Prop} (room : Dv A (k + 1)) (fr : A.frames = some fs) (hd : G.quiet = true → A.handled = none) (hok : ∀ v, A.handled = some v → ∃ C, RV S s.heap v (.exc C)) (ff : FF G.B s.heap fs) (hB : G.B.StaysIn s.heap) (sd : EU S s.heap) (rv : RVs S s.heap vs ds) (hlen : ds.length = ps.length)
  (h : ∀ (cx : Cx) (h₁ : Heap) (tk₁ : Nat), CxOk G cx fd.scope k → FnOk G cx → cx.h₀ = s.heap → cx.P = S → cx.fs.tail = fs → cx.env.frame = some cx.env.locals → Rel G cx fd.scope (Y9 fd.scope ps ds) S h₁ → (∀ b o, s.heap.get? b = some o → h₁.get? b = some o) →
   wpAny G.M cx.A (execs body cx.env) (fun f s' => R (.ok (.ret (match f with | .ret v => v | _ => .none))) s') (fun e s' => wpAny G.M cx.A (leaving cx.env e) (fun _ s'' => R (.error e) s'') (fun e' s'' => R (.error e') s'') s') { s with heap := h₁, toks := tk₁ }) :
  codeAny G.M A (.call (.ref a) ⟨vs, []⟩) R s := by
 have hvl : vs.length = ps.length := rv.length.trans hlen
 refine codeAny_call_cells (fd := fd) (binds := ps.zip vs) (by have := room.1; unfold recursionLimit; lia) (hB _ _ hfo) hfd (hG.nolimit.keeps hB) (let ⟨c, o, ws, t, e1, e2, e3, e4⟩ := hcode; ⟨c, o, ws, t, e1, hB _ _ e2, e3, e4⟩) hbody (hbind vs hvl) hclo
  (fun x hx => ?_) (fun s₁ X => ?_) hco hgen hkind
 ·have hm : x.1 ∈ ps := by rw [← Wg ps vs hvl]; exact List.mem_map_of_mem hx
  exact (hps _ hm).imp id fun q => ⟨q, Jr _ _ _ (.inl q)⟩
 have D1 := X.toInCall.done
 obtain ⟨h₁, tk₁, rfl, hk₁⟩ := D1
 have nd : ((ps.zip vs).map (·.1)).Nodup := by rw [Wg ps vs hvl]; exact hpn
 have hLn : s.heap.get? s.heap.objs.size = none := Heap.get?_none_of_le (Nat.le_refl _)
 have hBn : G.B.get? s.heap.objs.size = none := by
  cases q : G.B.get? s.heap.objs.size with
  | none => rfl
  | some o => rw [hB _ _ q] at hLn; cases hLn
 let cx : Cx := { A := A.deeper (callEnvC fd s.heap.objs.size a), env := callEnvC fd s.heap.objs.size a, fs := callEnvC fd s.heap.objs.size a :: fs, h₀ := s.heap, P := S }
 have ok : CxOk G cx fd.scope k := { hsc := rfl, hk := hkind, hg := hgl, hb := hbl, fr := by show (A.deeper _).frames = _; unfold Around.deeper; rw [fr]; rfl, top := ⟨_, fs, rfl, rfl⟩, hd := hd, room := ⟨by have := room.1; show A.depth + 1 + k ≤ 900; exact omS this, by have := room.2; show A.units + 3 + 8 * k ≤ 9000; lia⟩, nodup := hnd }
 have above : ∀ x c, cx.env.cells.lookup x = some c → s.heap.objs.size < c := fun x c q => X.above x c (mem_of_lookup q)
 have fn : FnOk G cx := { bh := hB, lnew := hLn, cap := fun x y c q q' _ => name_of_addr X.apart (mem_of_lookup q) (mem_of_lookup q'), loc := fun x c q => Nat.ne_of_gt (above x c q), has := fun x q => let ⟨c, hc⟩ := Option.isSome_iff_exists.mp (Jr _ _ _ (.inl q)); ⟨c, hc, Heap.get?_none_of_le (Nat.le_of_lt (above x c hc))⟩ }
 have vals : ∀ y v, Var cx.env h₁ y v → v ∈ vs := fun y v q => by
  rcases q with ⟨q1, m, n, e⟩ | ⟨q1, c, q2, n⟩
  ·have := X.toInCall.ns.agree n y
   rw [e, Br _ _ _ _ nd, if_pos q1] at this
   cases hl : (ps.zip vs).lookup y with
   | none => rw [hl] at this; cases this
   | some w => rw [hl] at this; cases this; exact (VH hl).1
  ·have := IsCell.inj (X.cell y c q2) n
   rw [VR _ _ _ _ nd, if_neg (by show ¬ cx.env.kindOf y = some .local; rcases q1 with q | q <;> (rw [q]; decide))] at this
   cases hl : (ps.zip vs).lookup y with
   | none => rw [hl] at this; cases this
   | some w => rw [hl] at this; cases this; exact (VH hl).1
 have r₀ : Rel G cx fd.scope (Y9 fd.scope ps ds) S h₁ := {
  base := fun b o q => hk₁ b o (hB b o q)
  keep := Kp.of_keeps hk₁
  ff := fun env he => by
   rcases List.mem_cons.mp he with rfl | he
   ·obtain ⟨o, es, ep, q1, q2, _⟩ := X.toInCall.ns
    exact ⟨by show fd.scope.kind ≠ .module; rw [hkind]; decide, s.heap.objs.size, o, rfl, hBn, q1, es, ep, q2⟩
   ·exact ff.kp (Kp.of_keeps hk₁) env he
  ns := ⟨_, X.toInCall.ns⟩
  cells := fun x c q => ⟨_, X.cell x c q⟩
  sdom := fun b q => let ⟨o, e⟩ := sd b q; ⟨o, hk₁ b o e⟩
  sok := fun b q => .inl q
  sloc := fun q => by obtain ⟨o, e⟩ := sd _ q; rw [show cx.env.locals = s.heap.objs.size from rfl, hLn] at e; cases e
  scell := fun x c q q' => by obtain ⟨o, e⟩ := sd _ q'; rw [show s.heap.get? c = none from Heap.get?_none_of_le (Nat.le_of_lt (above x c q))] at e; cases e
  live := fun x b _ q => by
   obtain ⟨d, _, rvd⟩ := rv.mem (vals x _ q)
   obtain ⟨o, e⟩ := rvd.live b rfl
   exact ⟨o, hk₁ b o e⟩
  clean := fun i x m d hx hi => by
   unfold Y9 at hi
   rw [List.getElem?_map, hx] at hi
   simp only [Option.map_some, Option.some.injEq] at hi
   cases hl : (ps.zip ds).lookup x with
   | none => rw [hl] at hi; cases hi
   | some d => rw [hl] at hi; cases hi
  hok := fun v q => let ⟨C, e⟩ := hok v q; ⟨C, e.ext (Ext.of_keeps hk₁)⟩
  vars := fun i x t hx ht => by
   unfold Y9 at ht
   rw [List.getElem?_map, hx] at ht
   simp only [Option.map_some, Option.some.injEq] at ht
   cases hl : (ps.zip ds).lookup x with
   | none => rw [hl] at ht; cases ht
   | some d =>
    rw [hl] at ht; cases ht
    obtain ⟨v, hv, rvd⟩ := V8 rv hl
    refine ⟨v, ?_, rvd.ext (Ext.of_keeps hk₁)⟩
    rcases hps x (VH hv).2 with q | q
    ·refine .inl ⟨q, _, X.toInCall.ns, ?_⟩
     rw [Br _ _ _ _ nd, if_pos (show (callEnvC fd s.heap.objs.size a).kindOf x = some .local from q), hv]
    ·obtain ⟨c, hc⟩ := Option.isSome_iff_exists.mp (Jr fd.scope.names (s.heap.objs.size + 1) [] (.inl q) : ((cellsFrom (s.heap.objs.size + 1) fd.scope.names []).lookup x).isSome = true)
     refine .inr ⟨.inl q, c, hc, ?_⟩
     have := X.cell x c hc
     rw [VR _ _ _ _ nd, if_neg (show ¬ (callEnvC fd s.heap.objs.size a).kindOf x = some .local from by rw [show (callEnvC fd s.heap.objs.size a).kindOf x = some .cell from q]; decide), hv] at this
     exact this
  inj := fun i j x y m m' d d' v hx hy hi hj _ _ => by
   unfold Y9 at hi
   rw [List.getElem?_map, hx] at hi
   simp only [Option.map_some, Option.some.injEq] at hi
   cases hl : (ps.zip ds).lookup x with
   | none => rw [hl] at hi; cases hi
   | some d => rw [hl] at hi; cases hi
  dok := fun i x m ks es hx hi => by
   unfold Y9 at hi
   rw [List.getElem?_map, hx] at hi
   simp only [Option.map_some, Option.some.injEq] at hi
   cases hl : (ps.zip ds).lookup x with
   | none => rw [hl] at hi; cases hi
   | some d => rw [hl] at hi; cases hi }
 exact h cx h₁ tk₁ ok fn rfl rfl rfl rfl r₀ hk₁
set_option tactic.hygienic true in
theorem LK {G : Gd} (hG : G.Ok) {k : Nat} {a : Addr} {fo : Obj} {fd : FuncData} {body : List Stmt} {f : AEnv → Res Fl} {ps : List Str} (hfo : G.B.get? a = some fo) (hfd : fo.data = .func fd) (hcode : G.B.CodeRec fd.code fd.qualname) (hbody : fd.body = .stmts body) (hclo : fd.closure = [])
  (hgl : fd.globals = mainGlobals) (hbl : fd.builtins = builtinsNs) (hbind : ∀ vs : List Value, vs.length = ps.length → bindArgs fd ⟨vs, []⟩ = pure (ps.zip vs))
  (hps : ∀ x ∈ ps, fd.scope.names.lookup x = some .local ∨ fd.scope.names.lookup x = some .cell) (hpn : ps.Nodup) (hnd : (Qm fd.scope).Nodup) (hkind : fd.scope.kind = .function) (hco : fd.scope.isCoroutine = false) (hgen : fd.scope.isGenerator = false)
  (h : UB G k fd.scope body f) : Zy G (k + 1) (.ref a) (IL fd.scope ps f) := by
 intro A fs S s vs ds room fr hd hok ff hB sd rv R fin
 unfold IL at fin
 split at fin
 rotate_left
 ·exact fin.elim
 rename_i hlen
 refine IU hG (body := body) (ps := ps) hfo hfd hcode hbody hclo hgl hbl hbind hps hpn hnd hkind hco hgen room fr hd hok ff hB sd rv hlen fun cx h₁ tk₁ ok fn e₀ eP _ _ r₀ hk₁ => ?_
 refine h cx ok fn (Y9 fd.scope ps ds) S { s with heap := h₁, toks := tk₁ } r₀ _ _ ?_
 cases hf : f (Y9 fd.scope ps ds) with
 | stuck => rw [hf] at fin; exact fin.elim
 | exc C ρ' =>
  rw [hf] at fin
  intro e h₂ t₂ S₂ r₂ f₂ x₂
  refine Bd (B := G.B) (h := h₁) (s := { s with heap := h₂, toks := t₂ }) ok.fr r₂.ff ok.top f₂ x₂.dom fun h₃ k₃ f₃ => ?_
  have r₃ := r₀.kpE r₂ k₃ f₂ f₃
  refine fin e h₃ t₂ (e₀ ▸ r₃.keep) r₃.base ?_
  obtain ⟨n, oe, ws, T, oT, ts, a1, a2, a0, a3, a4, a5, a6, a7, a8, a9, a10, a11⟩ := f₃
  have back : ∀ b, h₁.get? b = none → s.heap.get? b = none := fun b q => by
   cases q' : s.heap.get? b with
   | none => rfl
   | some o => rw [hk₁ b o q'] at q; cases q
  exact ⟨back e n, oe, ws, T, oT, ts, a1, a2, a0, a3, a4, a5, a6, back T a7, a8, a9, a10, a11⟩
 | ok fl ρ' =>
  rw [hf] at fin
  intro v h₂ t₂ S₂ r₂ j₂ x₂ _
  have back : ∀ b, S₂ b → S b ∨ s.heap.get? b = none := by have := r₂.sok; rw [e₀, eP] at this; exact this
  cases v <;> cases fl <;> first
   | exact j₂.elim
   | exact fin.elim
   | exact fin .none h₂ t₂ S₂ (e₀ ▸ r₂.keep) r₂.base x₂.sub back r₂.sdom .none
   | skip
  rename_i v t
  refine fin v h₂ t₂ S₂ (e₀ ▸ r₂.keep) r₂.base x₂.sub back r₂.sdom ?_
  cases t with
  | sh d => exact j₂
  | ow m d => obtain ⟨b, e, n1, ow, n2⟩ := j₂; exact ⟨b, e, e₀ ▸ n2, n1, ow⟩
end Mine
end

section
set_option Elab.async false
set_option maxRecDepth 100000
namespace Mine
open PySem
inductive BVals (cx : Cx) (sc : Scope) (S : Addr → Prop) (h : Heap) : List Value → List Bv → Prop
 | nil : BVals cx sc S h [] []
 | cons {v : Value} {b : Bv} {vs : List Value} {bs : List Bv} : Z5 cx sc S h v b → BVals cx sc S h vs bs → BVals cx sc S h (v :: vs) (b :: bs)
noncomputable def Uz (G : Gd) (k : Nat) (sc : Scope) (es : List Expr) (f : AEnv → Res (List Bv)) : Prop :=
 ∀ pos cx, CxOk G cx sc k → ∀ ρ S s, Rel G cx sc ρ S s.heap → QD G cx sc true (spliced (backTo pos (starEach es cx.env))) S s (fun S' h' vs bs => BVals cx sc S' h' vs bs) (f ρ)
noncomputable def Qj : AEnv → Res (List Bv) := fun ρ => .ok [] ρ
noncomputable def Qb (f : AEnv → Res Bv) (g : AEnv → Res (List Bv)) : AEnv → Res (List Bv) := fun ρ => (f ρ).bind fun b ρ₁ => (g ρ₁).bind fun bs ρ₂ => .ok (b :: bs) ρ₂
theorem Qe {G : Gd} {k : Nat} {sc : Scope} : Uz G k sc [] Qj := fun _ _ _ _ _ _ r => QD.pure r .nil
theorem Ey {G : Gd} {k : Nat} {sc : Scope} {e : Expr} {rest : List Expr} {f : AEnv → Res Bv} {g : AEnv → Res (List Bv)} (he : Qh G k sc e f) (hr : Uz G k sc rest g) (hs : XH e = true) : Uz G k sc (e :: rest) (Qb f g) := by
 intro pos cx ok ρ S s r
 rw [US hs]
 refine QD.bind (he cx ok ρ S s r) fun b ρ₁ v h₁ t₁ S₁ _ r₁ j₁ x₁ v₁ => ?_
 intro Q E out
 refine wpAny_bind (wpAny_pure ?_)
 refine (QD.bind (J' := fun S' h' vs bs => BVals cx sc S' h' vs bs) (QD.holding (hr pos cx ok ρ₁ S₁ { s with heap := h₁, toks := t₁ } r₁)) fun bs ρ₂ vs h₂ t₂ S₂ _ r₂ j₂ x₂ v₂ => ?_) Q E out
 exact QD.pure r₂ (.cons (Z5.ext j₁ x₂ (v₂ rfl)) j₂)
noncomputable def Zx (ρ : AEnv) : List Bv → Option (List D)
 | [] => some []
 | b :: bs => match b.get ρ, Zx ρ bs with
  | some d, some ds => some (d :: ds)
  | _, _ => none
noncomputable def ZK (ρ : AEnv) : Bv → Bool
 | .val _ => true
 | .var i => match ρ[i]? with
  | some (some (.sh _)) => true
  | _ => false
mutual
noncomputable def Qg : D → Bool
 | .list _ => false
 | .obj _ _ _ => false
 | .tup ds => Ka ds
 | _ => true
noncomputable def Ka : List D → Bool
 | [] => true
 | d :: ds => Qg d && Ka ds
end
theorem RV.free {S S' : Addr → Prop} {h : Heap} {v : Value} {d : D} (q : RV S h v d) : Qg d = true → RV S' h v d :=
 RV.rec (motive_1 := fun v d _ => Qg d = true → RV S' h v d) (motive_2 := fun vs ds _ => Ka ds = true → RVs S' h vs ds) (fun _ => .none) (fun b _ => .bool b) (fun i t _ => .int i t) (fun y t _ => .str y t) (fun e hc hd _ r q => .tup e hc hd (r (by rw [Qg] at q; exact q)))
  (fun _ _ _ _ _ _ q => by rw [Qg] at q; cases q) (fun e _ => .range e) (fun e hc hn hd r _ => .exc e hc hn hd r) (fun v hv _ => .glob v hv) (fun _ _ _ _ _ _ _ q => by rw [Qg] at q; cases q) (fun _ => .nil)
  (fun _ _ a b e => by rw [Ka] at e; obtain ⟨e1, e2⟩ := Bool.and_eq_true_iff.mp e; exact .cons (a e1) (b e2)) q
section
variable {G : Gd} {cx : Cx} {sc : Scope} {ρ : AEnv} {S S' : Addr → Prop} {h h' : Heap}
set_option tactic.hygienic true in
theorem BVals.rvs {vs : List Value} {bs : List Bv} (q : BVals cx sc S h vs bs) (r : Rel G cx sc ρ S h) (hs : bs.all (ZK ρ) = true) : ∀ {ds : List D}, Zx ρ bs = some ds → RVs S h vs ds := by
 induction q with
 | nil => intro ds e; cases e; exact .nil
 | cons hb _ ih =>
  intro ds e
  rename_i v b vs bs _
  rw [Zx] at e
  rw [List.all_cons, Bool.and_eq_true_iff] at hs
  split at e
  ·rename_i d ds' hd hds
   cases e
   refine .cons ?_ (ih hs.2 hds)
   cases b with
   | val d' => cases hd; exact hb
   | var i =>
    obtain ⟨y, hy, hv⟩ := hb
    have h1 := hs.1
    simp only [ZK] at h1
    simp only [Bv.get] at hd
    split at h1
    ·rename_i d' ht
     rw [ht] at hd
     cases hd
     obtain ⟨w, hw, tv⟩ := r.vars i y _ hy ht
     rw [Var.inj hv hw]; exact tv
    ·cases h1
  ·cases e
set_option tactic.hygienic true in
theorem BVals.dom {vs : List Value} {bs : List Bv} (q : BVals cx sc S h vs bs) (r : Rel G cx sc ρ S h) : ∀ {ds : List D}, Zx ρ bs = some ds → RVs (fun b => ∃ o, h.get? b = some o) h vs ds := by
 induction q with
 | nil => intro ds e; cases e; exact .nil
 | cons hb _ ih =>
  intro ds e
  rename_i v b vs bs _
  rw [Zx] at e
  split at e
  ·rename_i d ds' hd hds
   cases e
   refine .cons ?_ (ih hds)
   cases hb.rb r hd with
   | of q => exact q.ext (Ext.grow r.sdom)
   | own q =>
    unfold ZJ at q
    split at q
    ·obtain ⟨vs, n, e, rv⟩ := q; exact .list ⟨_, e⟩ e ⟨rfl, rfl, rfl⟩ rfl (rv.ext (Ext.grow r.sdom))
    ·exact q.elim
  ·cases e
theorem Rel.kpS (r : Rel G cx sc ρ S h) (k : Kp h h') (hb : G.B.StaysIn h') (sub : ∀ b, S b → S' b) (new : ∀ b, S' b → S b ∨ h.get? b = none) (sd : EU S' h') : Rel G cx sc ρ S' h' ∧ Ext S h S' h' := by
 have x : Ext S h S' h' := ⟨sub, fun b o e _ => k b o e, fun b o e => k.dom e⟩
 have r' := r.kp k hb
 refine ⟨⟨hb, r'.keep, r'.ff, r'.ns, r'.cells, sd, fun b q => ?_, fun q => ?_, fun y c e q => ?_, r'.live, r'.clean, fun v q => let ⟨C, e⟩ := r.hok v q; ⟨C, e.ext x⟩, fun i y t hy ht => ?_, r'.inj, r'.dok⟩, x⟩
 ·exact (new b q).elim (r.sok b) fun q => .inr (r.keep.none q)
 ·rcases new _ q with q | q
  ·exact r.sloc q
  ·obtain ⟨m, o, _, _, e, _⟩ := r.ns; rw [q] at e; cases e
 ·rcases new _ q with q | q
  ·exact r.scell y c e q
  ·obtain ⟨v, o, e', _⟩ := r.cells y c e; rw [q] at e'; cases e'
 ·obtain ⟨v, hv, tv⟩ := r.vars i y t hy ht
  refine ⟨v, hv.kp k, ?_⟩
  cases t with
  | sh d => exact RV.ext x tv
  | ow m d =>
   obtain ⟨a, rfl, n1, ow, n2⟩ := tv
   obtain ⟨o, ho, _⟩ := ow.live
   refine ⟨a, rfl, fun q => ?_, ow.ext x fun o' e' => k a o' e', n2⟩
   rcases new _ q with q | q
   ·exact n1 q
   ·rw [q] at ho; cases ho
end
noncomputable def Jj (bs : List Bv) (ρ : AEnv) : FOut → Res T
 | .ok t => if bs.all (ZK ρ) then .ok t ρ else if Qg t.val then .ok (.sh t.val) ρ else .stuck
 | .exc C => .exc C ρ
 | .stuck => .stuck
noncomputable def QA (F : List D → FOut) (fa : AEnv → Res (List Bv)) : AEnv → Res T := fun ρ => (fa ρ).bind fun bs ρ₁ => ob (Zx ρ₁ bs) fun ds => Jj bs ρ₁ (F ds)
section
variable {G : Gd} {k : Nat} {sc : Scope}
set_option tactic.hygienic true in
theorem Bh {cx : Cx} {ρ : AEnv} {S : Addr → Prop} {s : Shared} {g : Value} {F : List D → FOut} {vs : List Value} {bs : List Bv} {ds : List D} {k' : Nat} (hF : Zy G k' g F) (ok : CxOk G cx sc k) (hk : k' ≤ k) (r : Rel G cx sc ρ S s.heap) (q : BVals cx sc S s.heap vs bs) (e : Zx ρ bs = some ds) :
  QD G cx sc true (call g vs []) S s (fun S' h' v t => Ul cx S' h' v t) (Jj bs ρ (F ds)) := by
 intro Q E out
 refine wpAny_call ?_
 by_cases hs : bs.all (ZK ρ) = true
 ·refine hF cx.A cx.fs S s vs ds (ok.room.mono hk) ok.fr ok.hd r.hok r.ff r.base r.sdom (q.rvs r hs e) _ ?_
  cases hf : F ds with
  | stuck => rw [hf] at out; exact out.elim
  | exc C =>
   rw [hf] at out
   intro ee h' tk kp hb fl
   exact out ee h' tk S (r.kp kp hb) fl.fly (Ext.of_kp kp)
  | ok t =>
   rw [hf] at out
   simp only [Jj] at out
   rw [if_pos hs] at out
   intro v h' tk S' kp hb sub new sd ret
   obtain ⟨r', x'⟩ := r.kpS kp hb sub new sd
   refine out v h' tk S' r' ?_ x' fun _ => r.same kp
   cases t with
   | sh d => exact ret
   | ow m d =>
    obtain ⟨a, rfl, n1, n2, ow⟩ := ret
    refine ⟨a, rfl, n2, ow, r.keep.none n1, fun x hdx hx => ?_⟩
    obtain ⟨o, ho⟩ := r.live x a hdx (Var.of_kp kp r.ns r.cells hx)
    rw [n1] at ho; cases ho
 ·refine hF cx.A cx.fs (fun b => ∃ o, s.heap.get? b = some o) s vs ds (ok.room.mono hk) ok.fr ok.hd (fun v q => let ⟨C, e⟩ := r.hok v q; ⟨C, e.ext (Ext.grow r.sdom)⟩) r.ff r.base (fun _ q => q) (q.dom r e) _ ?_
  cases hf : F ds with
  | stuck => rw [hf] at out; exact out.elim
  | exc C =>
   rw [hf] at out
   intro ee h' tk kp hb fl
   exact out ee h' tk S (r.kp kp hb) fl.fly (Ext.of_kp kp)
  | ok t =>
   rw [hf] at out
   simp only [Jj] at out
   rw [if_neg hs] at out
   split at out
   ·rename_i hfree
    intro v h' tk S' kp hb sub new sd ret
    refine out v h' tk S (r.kp kp hb) ?_ (Ext.of_kp kp) fun _ => r.same kp
    cases t with
    | sh d => exact RV.free ret hfree
    | ow m d =>
     obtain ⟨a, rfl, n1, n2, ow⟩ := ret
     exfalso
     unfold ZJ at ow
     split at ow
     ·simp [T.val, Qg] at hfree
     ·exact ow
   ·exact out.elim
theorem Yi {M : Model} {A : Around} {E : Value → Shared → Prop} {s : Shared} {env : Env} {pos : Pos} {f : Value} {es : List Expr} {Q : Args → Shared → Prop} (hu : es.all XH = true)
  (h : wpAny M A (spliced (backTo pos (starEach es env))) (fun vs s' => Q ⟨vs, []⟩ s') E s) : wpAny M A (evalArgs f true (backTo pos (starEach es env)) []) Q E s := by
 cases es with
 | nil =>
  unfold evalArgs
  show wpAny M A (spliced [] >>= _) Q E s
  refine wpAny_bind (wpAny_mono h (fun vs s' h' => ?_) fun _ _ x => x)
  refine wpAny_holding ?_
  exact wpAny_bind (wpAny_pure (wpAny_bind (wpAny_pure (wpAny_pure h'))))
 | cons e rest =>
  rw [List.all_cons, Bool.and_eq_true_iff] at hu
  rw [UO hu.1] at h ⊢
  exact Calls.evalArgs_plain h
theorem H0 {g : Str} {p pos : Pos} {a : Addr} {fo : Obj} {fd : FuncData} {F : List D → FOut} {args : List Expr} {fa : AEnv → Res (List Bv)} {k' : Nat} (hn : Sim G k sc (.Name g p) (Qd (.glob (.ref a)))) (hfo : G.B.get? a = some fo) (hfd : fo.data = .func fd)
  (hF : Zy G k' (.ref a) F) (hk : k' ≤ k) (ha : Uz G k sc args fa) (hu : args.all XH = true) : Sim G k sc (.Call (.Name g p) args [] pos) (QA F fa) := by
 intro cx ok ρ S s r Q E out
 show wpAny G.M cx.A (do callWith pos (← eval (.Name g p) cx.env) [] (backTo pos (starEach args cx.env)) []) Q E s
 refine wpAny_bind (hn cx ok ρ S s r _ _ ?_)
 intro v h₁ t₁ S₁ r₁ j₁ x₁ v₁
 have hv : v = .ref a := by cases j₁; rfl
 subst hv
 refine Calls.callWith_function (o := fo) (fd := fd) (Yi hu ?_)
 refine ha pos cx ok ρ S₁ { s with heap := h₁, toks := t₁ } r₁ _ _ ?_
 refine out.step (x₁) fun bs ρ' out vs h₂ t₂ S₂ r₂ j₂ x₂ v₂ => ?_
 refine ⟨⟨r₂.base _ _ hfo, hfd⟩, ?_⟩
 obtain ⟨ds, hds, out⟩ := out.ob
 exact Bh (s := { s with heap := h₂, toks := t₂ }) hF ok hk r₂ j₂ hds Q E (out.lift (x₁.trans x₂) fun q => (v₁ q).trans (v₂ q))
end
end Mine
end

section
set_option Elab.async false
set_option maxRecDepth 100000
namespace Mine
open PySem
inductive RBs (S : Addr → Prop) (h : Heap) : List Value → List D → Prop
 | nil : RBs S h [] []
 | cons {v : Value} {d : D} {vs : List Value} {ds : List D} : RB S h v d → RBs S h vs ds → RBs S h (v :: vs) (d :: ds)
set_option tactic.hygienic true in
theorem BVals.all {G : Gd} {cx : Cx} {sc : Scope} {ρ : AEnv} {S : Addr → Prop} {h : Heap} {vs : List Value} {bs : List Bv} (q : BVals cx sc S h vs bs) (r : Rel G cx sc ρ S h) : ∀ {ds : List D}, Zx ρ bs = some ds → RBs S h vs ds := by
 induction q with
 | nil => intro ds e; cases e; exact .nil
 | cons hb _ ih =>
  intro ds e
  rw [Zx] at e
  split at e
  ·rename_i d ds' hd hds
   cases e
   exact .cons (hb.rb r hd) (ih hds)
  ·cases e
noncomputable def OpN (G : Gd) (m : List Value → Sem Value) (F : List D → Option T) : Prop :=
 ∀ cx sc, CxOk G cx sc 0 → ∀ ρ S s vs ds t, Rel G cx sc ρ S s.heap → RBs S s.heap vs ds → F ds = some t → QD G cx sc true (m vs) S s (fun S' h' v t => Ul cx S' h' v t) (.ok t ρ)
noncomputable def Q8 (F : List D → Option T) (fa : AEnv → Res (List Bv)) : AEnv → Res T := fun ρ => (fa ρ).bind fun bs ρ₁ => ob (Zx ρ₁ bs) fun ds => ob (F ds) fun t => .ok t ρ₁
theorem Ud {M : Model} {A : Around} {E : Value → Shared → Prop} {s : Shared} {pos : Pos} {f : Value} {first : List Value} {args : List (Bool × Sem Value)} {Q : Value → Shared → Prop} (hf : ∀ a, f ≠ .ref a) (hplain : args.any (·.1) = false)
  (h : wpAny M A (evalArgs f true args []) (fun a s₁ => wpAny M A (call f (first ++ a.pos) a.kw) Q E s₁) E s) : wpAny M A (callWith pos f first args []) Q E s := by
 unfold callWith
 refine wpAny_bind (wpAny_holding (wpAny_mono h (fun a s₁ h₁ => wpAny_bind (wpAny_standAt ?_)) fun _ _ x => x))
 simp only [hplain, List.any_nil, Bool.or_false]
 have hk : keeperOf f = pure .machine := by
  unfold keeperOf
  cases f <;> first | rfl | exact absurd rfl (hf _)
 rw [hk]
 refine wpAny_bind (wpAny_pure ?_)
 exact wpAny_bind (wpAny_mono h₁ (fun r s₂ hr => wpAny_bind (wpAny_holding (wpAny_point (wpAny_pure hr)))) fun _ _ x => x)
theorem J9 {pos : Pos} {env : Env} : ∀ (es : List Expr), es.all XH = true → (backTo pos (starEach es env)).any (·.1) = false
 | [], _ => rfl
 | e :: r, h => by
  rw [List.all_cons, Bool.and_eq_true_iff] at h
  rw [UO h.1]
  show (false || (backTo pos (starEach r env)).any (·.1)) = false
  rw [J9 r h.2]; rfl
section
variable {G : Gd} {k : Nat} {sc : Scope}
theorem GQ {g : Str} {p pos : Pos} {f : Value} {F : List D → Option T} {args : List Expr} {fa : AEnv → Res (List Bv)} (hn : Sim G k sc (.Name g p) (Qd (.glob f))) (hf : ∀ a, f ≠ .ref a) (hop : OpN G (fun vs => call f vs []) F)
  (ha : Uz G k sc args fa) (hu : args.all XH = true) : Sim G k sc (.Call (.Name g p) args [] pos) (Q8 F fa) := by
 intro cx ok ρ S s r Q E out
 show wpAny G.M cx.A (do callWith pos (← eval (.Name g p) cx.env) [] (backTo pos (starEach args cx.env)) []) Q E s
 refine wpAny_bind (hn cx ok ρ S s r _ _ ?_)
 intro v h₁ t₁ S₁ r₁ j₁ x₁ v₁
 have hv : v = f := by cases j₁; rfl
 subst hv
 refine Ud hf (J9 args hu) (Yi hu ?_)
 refine ha pos cx ok ρ S₁ { s with heap := h₁, toks := t₁ } r₁ _ _ ?_
 refine out.step (x₁) fun bs ρ' out vs h₂ t₂ S₂ r₂ j₂ x₂ v₂ => ?_
 obtain ⟨ds, hds, out⟩ := out.ob
 obtain ⟨t, ht, out⟩ := out.ob
 exact hop cx sc (ok.mono (Nat.zero_le _)) ρ' S₂ { s with heap := h₂, toks := t₂ } vs ds t r₂ (BVals.all j₂ r₂ hds) ht Q E (out.lift (x₁.trans x₂) fun q => (v₁ q).trans (v₂ q))
end
noncomputable def FP (K : W.Frag) : D → Value → Option Bool
 | .none, c => W.kitOne [] (.type "NoneType") c
 | .bool _, c => W.kitOne [] (.type "bool") c
 | .int _, c => W.kitOne [] (.type "int") c
 | .str _, c => W.kitOne [] (.type "str") c
 | .tup _, c => W.kitOne [] (.type "tuple") c
 | .list _, c => W.kitOne [] (.type "list") c
 | .exc C, c => if VP K C then W.kitOne K (.ref C) c else none
 | _, _ => none
noncomputable def Q1 (K : W.Frag) : List D → Option T
 | [x, .glob c] => (FP K x c).map fun b => .sh (.bool b)
 | _ => none
theorem En {K : W.Frag} {ds : List D} {t : T} (e : Q1 K ds = some t) : ∃ x c, ds = [x, .glob c] ∧ (FP K x c).map (fun b => T.sh (.bool b)) = some t := by
 cases ds with
 | nil => exact nn e
 | cons x ds =>
  cases ds with
  | nil => exact nn e
  | cons y ds =>
   cases ds with
   | nil => cases y <;> first | exact ⟨_, _, rfl, e⟩ | exact nn e
   | cons z ds => cases y <;> exact nn e
theorem Xa {G : Gd} (hG : G.Ok) : OpN G (fun vs => call (.builtin "isinstance") vs []) (Q1 G.K) := by
 intro cx sc ok ρ S s vs ds t rel q e Q E out
 obtain ⟨x, c, rfl, e⟩ := En e
 ·obtain ⟨b, hb, rfl⟩ := Option.map_eq_some_iff.mp e
  cases q with
  | cons qx q =>
   cases q with
   | cons qc q =>
    cases q
    have hc := qc.rv fun _ e => by cases e
    cases hc
    have nil : W.Frag.In [] s.heap := fun _ _ e => by cases e
    have fin : ∀ tk, Q (.bool b) { s with toks := tk } := fun tk => ZS out rel (.bool _)
    cases x with
    | none => rw [qx.none]; exact W.kia_one W.kitx_none nil trivial hb (fun e => by cases e) fin
    | bool i => rw [qx.bool]; exact W.kia_one W.kitx_bool nil trivial hb (fun e => by cases e) fin
    | int i => obtain ⟨_, rfl⟩ := qx.int; exact W.kia_one W.kitx_int nil trivial hb (fun e => by cases e) fin
    | str i => obtain ⟨_, rfl⟩ := qx.str; exact W.kia_one W.kitx_str nil trivial hb (fun e => by cases e) fin
    | tup ds => obtain ⟨a, o, vs, n, rfl, h1, h2, _⟩ := qx.tup; exact W.kia_one W.kitx_tuple nil ⟨o, h1, h2⟩ hb (fun e => by cases e) fin
    | list ds => obtain ⟨a, o, vs, n, rfl, h1, h2, _⟩ := qx.list; exact W.kia_one W.kitx_list nil ⟨o, h1, h2⟩ hb (fun e => by cases e) fin
    | exc C =>
     have hb : (if VP G.K C = true then W.kitOne G.K (.ref C) c else none) = some b := hb
     by_cases ha : VP G.K C = true
     ·rw [if_pos ha] at hb
      have := qx.rv fun _ e => by cases e
      cases this with
      | exc h1 h2 h3 h4 h5 =>
       exact W.kia_one (Er ha) (hG.K.keeps rel.base) ⟨_, h1, h2, by unfold W.notCls; rw [h4], h3⟩ hb (fun e => by cases e) fin
     ·rw [if_neg ha] at hb; exact nn hb
    | range _ _ _ => exact nn hb
    | glob _ => exact nn hb
    | dict _ _ => exact nn hb
    | obj _ _ _ => exact nn hb
end Mine
end

section
set_option Elab.async false
set_option maxRecDepth 100000
namespace Mine
open PySem
noncomputable def Jw (C : Addr) (fa : AEnv → Res (List D)) : AEnv → Res Fl := fun ρ => (fa ρ).bind fun ds ρ₁ => if ds.length ≤ 1000 then .exc C ρ₁ else .stuck
section
variable {G : Gd} {k : Nat} {sc : Scope}
set_option tactic.hygienic true in
theorem EQ {x : Str} {C : Addr} {bm : List Value} {newId Bn initId : String} {np cpos pos : Pos} {args : List Expr} {fa : AEnv → Res (List D)} (hG : G.Ok) (hq : G.quiet = true) (O : PyProof.Rows.OwnCls x C bm newId G.mg G.B) (FB : ExcBaseFacts Bn newId initId bm)
  (hx : sc.names.lookup x = some .globalImplicit) (hd : (x == ("__debug__" : Str)) = false) (ha : Os G k sc args fa) (hu : args.all XH = true) : Jk G k sc (.Raise (some (.Call (.Name x np) args [] cpos)) none pos) (Jw C fa) := by
 intro cx ok fn ρ S s r Q E out
 obtain ⟨tl, N, nm, q, bs, hdct, sn, sub, ab, col, dd, k0, k1, k2, k3, k5, mN, hC, hN, hni, T⟩ := O.obj
 refine wpAny_Raise_call_subT (C := C) (nm := nm) (q := q) (N := N) (bs := bs) (bm := tl) (hdct := hdct) (sn := sn) (sub := sub) (ab := ab) (col := col) (dd := dd) (k0 := k0) (k1 := k1) (k2 := k2) (k3 := k3) (k5 := k5)
  FB (mN := mN) (T.hasType FB.hasBase) (ok.hd hq) (J9 args hu) hni ?_
 have hn := V2 (k := k) (sc := sc) (pos := np) hG hx O.bound (fun a e => by cases e; exact ⟨_, hC⟩) hd
 refine hn cx ok ρ S s r _ _ ?_
 intro v h₁ t₁ S₁ r₁ j₁ x₁ v₁
 refine ⟨by cases j₁; rfl, Yi hu ?_⟩
 refine ha cpos cx ok ρ S₁ { s with heap := h₁, toks := t₁ } r₁ _ _ ?_
 refine out.step (x₁) fun ds ρ' out vs h₂ t₂ S₂ r₂ j₂ x₂ v₂ => ?_
 split at out
 ·rename_i hl
  refine ⟨rfl, by show vs.length ≤ sizeLine; rw [j₂.length, sizeLine_eq]; exact omB hl, r₂.base _ _ hC, hN.keeps r₂.base, T.keeps r₂.base, fun h₃ e m => ?_⟩
  obtain ⟨t, m1, m2, m3⟩ := m.there
  refine out e h₃ t₂ S₂ (r₂.keeps m.keeps) ⟨(x₁.trans x₂).none m.new, _, _, m1, rfl, rfl, rfl, rfl, .inl rfl⟩ ((x₁.trans x₂).trans (Ext.of_keeps m.keeps))
 ·exact out.elim
end
noncomputable def F8 (K : W.Frag) (C' : Addr) (i : Nat) (f g : AEnv → Res Fl) : AEnv → Res Fl := fun ρ => match f ρ with
 | .ok fl ρ₁ => .ok fl ρ₁
 | .exc C ρ₁ => if W.mroIn K C (.ref C') == some true then (match g (ρ₁.set i (some (.sh (.exc C)))) with
   | .ok fl ρ₂ => .ok fl (ρ₂.set i none)
   | _ => .stuck) else .stuck
 | .stuck => .stuck
noncomputable def Gd.loud (G : Gd) : Gd := { G with quiet := false }
theorem Rel.loud {G : Gd} {cx : Cx} {sc : Scope} {ρ : AEnv} {S : Addr → Prop} {h : Heap} {A' : Around} (r : Rel G cx sc ρ S h) (hok : ∀ v, A'.handled = some v → ∃ C, RV S h v (.exc C)) : Rel G.loud { cx with A := A' } sc ρ S h :=
 ⟨r.base, r.keep, r.ff, r.ns, r.cells, r.sdom, r.sok, r.sloc, r.scell, r.live, r.clean, hok, r.vars, r.inj, r.dok⟩
theorem Rel.unloud {G : Gd} {cx : Cx} {sc : Scope} {ρ : AEnv} {S : Addr → Prop} {h : Heap} {A' : Around} (hok : ∀ v, cx.A.handled = some v → ∃ C, RV S h v (.exc C)) (r : Rel G.loud { cx with A := A' } sc ρ S h) : Rel G cx sc ρ S h :=
 ⟨r.base, r.keep, r.ff, r.ns, r.cells, r.sdom, r.sok, r.sloc, r.scell, r.live, r.clean, hok, r.vars, r.inj, r.dok⟩
theorem DY {G : Gd} {cx : Cx} {sc : Scope} {ρ : AEnv} {S : Addr → Prop} {s : Shared} {i : Nat} {n : Str} {pos : Pos} {M : Model} {A : Around} {E : Value → Shared → Prop} {Q : Unit → Shared → Prop} (ok : CxOk G cx sc 0) (fn : FnOk G cx) (r : Rel G cx sc ρ S s.heap) (hx : (Qm sc)[i]? = some n) (hk : sc.names.lookup n = some .local) (hdn : Zr n = true)
  (hQ : ∀ h' tk, Rel G cx sc (ρ.set i none) S h' → Ext S s.heap S h' → (∀ v t, IO cx S s.heap v t → IO cx S h' v t) → Q () { s with heap := h', toks := tk }) : wpAny M A (do bindName cx.env n .none; unbindBehindTheSuite cx.env n pos) Q E s := by
 have hkf : cx.env.scope.kind = .function := by rw [ok.hsc]; exact ok.hk
 have kd : ∀ y, cx.env.kindOf y = sc.names.lookup y := fun y => by unfold Env.kindOf; rw [ok.hsc]
 obtain ⟨m, hm⟩ := r.ns
 have hm0 := hm
 obtain ⟨oL, es, ep, eL, dL, _⟩ := hm0
 refine wpAny_nameGoes_keeps ((kd n).trans hk) hm (by rw [hkf]; rfl) fun h' v n' k => ?_
 have n'' := n'
 obtain ⟨oL', es', ep', eL', dL', _⟩ := n''
 have x' : Ext S s.heap S h' := FE eL (by rintro (⟨_, vs, n, q⟩ | ⟨vs, q⟩) <;> (rw [dL] at q; cases q)) r.sloc k ⟨_, eL'⟩
 have ow' : ∀ {a d}, ZJ S s.heap a d → ZJ S h' a d := fun {a d} q => q.ext x' fun o eo => (k.2 a (by
  rintro rfl
  obtain ⟨o', ho', _, vs, n, hd⟩ := q.cls
  rw [eL] at ho'; cases ho'; rw [dL] at hd; cases hd)).trans eo
 have cellsame : ∀ y c, cx.env.cells.lookup y = some c → ∀ w, s.heap.IsCell c w → h'.IsCell c w := fun y c q w n => n.sameBut k (fn.loc y c q)
 have hb : ∀ y w, y ≠ n → Var cx.env s.heap y w → Var cx.env h' y w := fun y w hy q => by
  rcases q with ⟨a, m₁, b, c⟩ | ⟨a, c, b, d⟩
  ·refine .inl ⟨a, _, n', ?_⟩
   rw [if_neg hy, ← b.agree hm y]; exact c
  ·exact .inr ⟨a, c, b, cellsame y c b _ d⟩
 have hf : ∀ y w, y ≠ n → Var cx.env h' y w → Var cx.env s.heap y w := fun y w hy q => by
  rcases q with ⟨a, m₁, b, c⟩ | ⟨a, c, b, d⟩
  ·refine .inl ⟨a, m, hm, ?_⟩
   have := b.agree n' y
   rw [if_neg hy] at this
   rw [← this]; exact c
  ·obtain ⟨w₀, n₀⟩ := r.cells y c b
   exact .inr ⟨a, c, b, by rw [IsCell.inj d (cellsame y c b _ n₀)]; exact n₀⟩
 have neName : ∀ (j : Nat) (y : Str), (Qm sc)[j]? = some y → j ≠ i → y ≠ n := fun j y hy hj q => by
  subst q
  obtain ⟨h1, e1⟩ := List.getElem?_eq_some_iff.mp hx
  obtain ⟨h2, e2⟩ := List.getElem?_eq_some_iff.mp hy
  exact hj ((List.getElem_inj ok.nodup).mp (e2.trans e1.symm))
 have ne : ∀ (j : Nat) u, (ρ.set i none)[j]? = some (some u) → j ≠ i ∧ ρ[j]? = some (some u) := fun j u q => by
  by_cases hj : j = i
  ·exfalso
   subst hj
   by_cases hl : j < ρ.length
   ·rw [List.getElem?_set_self hl] at q; cases q
   ·rw [List.getElem?_eq_none (by rw [List.length_set]; exact Nat.le_of_not_lt hl)] at q; cases q
  ·rw [List.getElem?_set_ne (Ne.symm hj)] at q; exact ⟨hj, q⟩
 refine hQ h' _ ⟨fun b o q => (k.2 b (by rintro rfl; have := fn.bh _ _ q; rw [fn.lnew] at this; cases this)).trans (r.base b o q), fun b o q => ?_, fun env he => ?_, ⟨_, n'⟩, fun y c q => let ⟨w, n⟩ := r.cells y c q; ⟨w, cellsame y c q w n⟩, fun b q => let ⟨o, eo⟩ := r.sdom b q; x'.dom b o eo, r.sok, r.sloc, r.scell,
  fun y a hdy q => ?_, fun j y mm d hy hj => r.clean j y mm d hy (ne j _ hj).2, fun v q => let ⟨C, e⟩ := r.hok v q; ⟨C, e.ext x'⟩, fun j y u hy hu => ?_, fun j l y z mm m' d d' u hy hz hj hl a b => ?_, fun j y mm ks ds hy hj hvy => r.dok j y mm ks ds hy (ne j _ hj).2 (hf y _ (neName j y hy (ne j _ hj).1) hvy)⟩ x' fun v t q => ?_
 ·obtain ⟨sl, q₁, k₁⟩ := r.keep b o q
  exact ⟨sl, (k.2 b (by rintro rfl; rw [fn.lnew] at q; cases q)).trans q₁, k₁⟩
 ·obtain ⟨a, L, o, b, c, d, es, n, q⟩ := r.ff env he
  by_cases hL : L = cx.env.locals
  ·subst hL; exact ⟨a, _, _, b, c, eL', es', ep', dL'⟩
  ·exact ⟨a, L, o, b, c, (k.2 L hL).trans d, es, n, q⟩
 ·have hy : y ≠ n := by rintro rfl; rw [hdn] at hdy; cases hdy
  obtain ⟨o, eo⟩ := r.live y a hdy (hf y _ hy q)
  exact x'.dom a o eo
 ·obtain ⟨hj, hu⟩ := ne j u hu
  obtain ⟨w, hw, tw⟩ := r.vars j y u hy hu
  refine ⟨w, hb y w (neName j y hy hj) hw, ?_⟩
  cases u with
  | sh d => exact RV.ext x' tw
  | ow m d =>
   obtain ⟨a, rfl, n1, ow, n2⟩ := tw
   refine ⟨a, rfl, n1, ?_, n2⟩
   rcases ow.cases with ow | ⟨ks, ds, rfl, ow⟩
   ·exact (ow' ow).v
   ·refine DictAt.map x'.carry (fun o eo => ⟨o.slots, (k.2 a ?_).trans eo⟩) ow
    rintro rfl
    exact r.dok j y m ks ds hy hu hw
 ·obtain ⟨hji, hj⟩ := ne j _ hj
  obtain ⟨hli, hl⟩ := ne l _ hl
  exact r.inj j l y z mm m' d d' u hy hz hj hl (hf y _ (neName j y hy hji) a) (hf z _ (neName l z hz hli) b)
 ·cases t with
  | sh d => exact RV.ext x' q
  | ow m d => obtain ⟨a, rfl, n1, ow, n2⟩ := q; exact ⟨a, rfl, n1, ow' ow, n2⟩
section
variable {G : Gd} {k : Nat} {sc : Scope}
set_option tactic.hygienic true in
theorem HF {body suite : List Stmt} {b₀ : Stmt} {x n : Str} {np hp pos : Pos} {C' : Addr} {i : Nat} {f g : AEnv → Res Fl} (hG : G.Ok) (hq : G.quiet = true) (hb : UB G k sc body f) (hs : UB G.loud k sc (b₀ :: suite) g)
  (hn : Sim G.loud k sc (.Name x np) (Qd (.glob (.ref C')))) (hx : (Qm sc)[i]? = some n) (hk : sc.names.lookup n = some .local) (hdn : Zr n = true)
  (hty : W.typeIn G.K (.ref C') = some (.type "type")) (hcl : (W.clsIn G.K C').isSome = true) (hbe : W.mroIn G.K C' (.type "BaseException") = some true) :
  Jk G k sc (.Try body [.ExceptHandler (some (.Name x np)) (some n) (b₀ :: suite) hp] [] [] pos) (F8 G.K C' i f g) := by
 intro cx ok fn ρ S s r Q E out
 refine wpAny_Try_except ?_
 refine hb cx ok fn ρ S s r _ _ ?_
 unfold F8 at out
 cases hf : f ρ with
 | stuck => rw [hf] at out; exact out.elim
 | ok fl ρ₁ =>
  rw [hf] at out
  intro a h₁ t₁ S₁ r₁ j₁ x₁ v₁
  have := out a h₁ t₁ S₁ r₁ j₁ x₁ v₁
  cases a <;> first | exact this | exact wpAny_execs_nil this
 | exc C ρ₁ =>
  rw [hf] at out
  simp only at out
  split at out
  rotate_left
  ·exact out.elim
  rename_i hmro
  have hmro : W.mroIn G.K C (.ref C') = some true := beq_iff_eq.mp hmro
  intro e h₁ t₁ S₁ r₁ f₁ x₁
  refine Wr (B := G.B) (h := s.heap) (s := { s with heap := h₁, toks := t₁ }) ok.fr r₁.ff ok.top f₁ x₁.dom fun h₂ k₂ f₂ => ?_
  have r₂ := r.kpE r₁ k₂ f₁ f₂
  have x₂ := Ext.kpE (G := G) x₁ k₂ f₁
  refine J2 (B := G.B) (s := { s with heap := h₂, toks := t₁ }) f₂ fun h₃ k₃ f₃ => ?_
  have r₃ := r.kpE r₂ k₃ f₂.fly f₃
  have x₃ := Ext.kpE (G := G) x₂ k₃ f₂.fly
  refine wpAny_handleBy_cons (codeAny_handlers_test ?_) (by intro q; cases q)
  let A' := cx.A.mark (some (.ref e))
  let cx' : Cx := { cx with A := A' }
  have hA' : A'.handled = some (.ref e) := rfl
  have ok' : CxOk G.loud cx' sc k := { hsc := ok.hsc, hk := ok.hk, hg := ok.hg, hb := ok.hb, fr := ok.fr, top := ok.top, hd := (fun q => by cases q), room := ok.room, nodup := ok.nodup }
  have fn' : FnOk G.loud cx' := ⟨⟨fn.bh, fn.lnew, fn.cap, fn.loc⟩, fn.has⟩
  have exc₃ : ∀ S', RV S' h₃ (.ref e) (.exc C) := fun S' => by
   obtain ⟨_, oe, vs, T, oT, ts, a1, a2, a0, a3, a4, _⟩ := f₃
   exact .exc a1 a2 a0 a3 a4
  have hok₃ : ∀ v, A'.handled = some v → ∃ C, RV S₁ h₃ v (.exc C) := fun v q => by rw [hA'] at q; cases q; exact ⟨C, exc₃ _⟩
  have rl₃ : Rel G.loud cx' sc ρ₁ S₁ h₃ := Rel.loud r₃ hok₃
  refine hn cx' ok' ρ₁ S₁ { s with heap := h₃, toks := t₁ } rl₃ _ _ ?_
  intro v h₄ t₄ S₄ r₄ j₄ x₄ v₄
  have hv : v = .ref C' := by cases j₄; rfl
  subst hv
  have exc₄ : RV S₄ h₄ (.ref e) (.exc C) := (exc₃ S₁).ext x₄
  have X₄ : G.K.In h₄ := hG.K.keeps r₄.base
  cases exc₄ with
  | exc e1 e2 e3 e4 e5 =>
  refine B3 (s := { s with heap := h₄, toks := t₄ }) X₄ e1 e2 hty hcl hbe hmro ?_
  simp only [if_true]
  refine codeAny_handlers_suite_as ?_
  have f₄ : FlyT s.heap h₄ e C := by
   obtain ⟨hne, oe, vs, T, oT, ts, a1, a2, a0, a3, a4, a5, a6, a7, a8, a9, a10, a11⟩ := f₃
   exact ⟨hne, oe, vs, T, oT, ts, x₄.exact a1 (.inr (.inr ⟨_, a3⟩)) (.fields a3), a2, a0, a3, a4, a5, a6, a7, x₄.exact a8 (.inr (.inr ⟨_, a10⟩)) (.fields a10), a9, a10, a11⟩
  have x₄' := x₃.trans x₄
  refine J2 (B := G.B) (h := s.heap) (s := { s with heap := h₄, toks := t₄ }) f₄ fun h₅ k₅ f₅ => ?_
  have r4' : Rel G cx sc ρ₁ S₄ h₄ := Rel.unloud (fun v q => by rw [ok.hd hq] at q; cases q) r₄
  have r₅ : Rel G cx sc ρ₁ S₄ h₅ := r.kpE r4' k₅ f₄.fly f₅
  have x₅ := Ext.kpE (G := G) x₄' k₅ f₄.fly
  have exc₅ : ∀ S', RV S' h₅ (.ref e) (.exc C) := fun S' => by
   obtain ⟨_, oe, vs, T, oT, ts, a1, a2, a0, a3, a4, _⟩ := f₅
   exact .exc a1 a2 a0 a3 a4
  have rl₅ : Rel G.loud cx' sc ρ₁ S₄ h₅ := Rel.loud r₅ (fun v q => by rw [hA'] at q; cases q; exact ⟨C, exc₅ _⟩)
  refine KO (s := { s with heap := h₅, toks := t₄ }) (ok'.mono (Nat.zero_le _)) fn'.toFnCx rl₅ hx (.inl hk) (t := .sh (.exc C)) (.inr ⟨_, rfl⟩) (exc₅ S₄) _ _ ?_
  intro _ h₆ t₆ S₆ r₆ _ x₆ _
  refine hs cx' ok' fn' _ S₆ { s with heap := h₆, toks := t₆ } r₆ _ _ ?_
  cases hg : g (ρ₁.set i (some (.sh (.exc C)))) with
  | stuck => rw [hg] at out; exact out.elim
  | exc C₂ ρ₂ => rw [hg] at out; exact out.elim
  | ok fl ρ₂ =>
   rw [hg] at out
   intro a h₇ t₇ S₇ r₇ j₇ x₇ _
   have r7' : Rel G cx sc ρ₂ S₇ h₇ := Rel.unloud (fun v q => by rw [ok.hd hq] at q; cases q) r₇
   refine DY (s := { s with heap := h₇, toks := t₇ }) (ok.mono (Nat.zero_le _)) fn r7' hx hk hdn fun h₈ t₈ r₈ x₈ rt => ?_
   refine out a h₈ t₈ S₇ r₈ ?_ (((x₅.trans x₆).trans x₇).trans x₈) fun q => by cases q
   cases a <;> cases fl <;> first | exact j₇ | exact rt _ _ j₇
end
end Mine
end

section
set_option Elab.async false
set_option maxRecDepth 100000
namespace Mine
open PySem PyProof.Rows
noncomputable def FH (G : Gd) (k : Nat) (sc : Scope) (op : BoolOp) (es : List Expr) (f : AEnv → Res T) : Prop :=
 ∀ pos cx, CxOk G cx sc k → ∀ ρ S s, Rel G cx sc ρ S s.heap → QD G cx sc true (boolOp pos op (evalEach es cx.env)) S s (fun S' h' v t => Ul cx S' h' v t) (f ρ)
noncomputable def Lo : BoolOp → Bool
 | .And => true
 | .Or => false
noncomputable def eBo (op : BoolOp) (f : AEnv → Res Bv) (g : AEnv → Res T) : AEnv → Res T := fun ρ => (f ρ).bind fun a ρ₁ => ob (a.get ρ₁) fun x => ob (asB x) fun b => if b == Lo op then g ρ₁ else .ok (.sh (.bool b)) ρ₁
section
variable {G : Gd} {k : Nat} {sc : Scope} {op : BoolOp}
theorem J5 {x : Expr} {f : AEnv → Res T} (h : Sim G k sc x f) : FH G k sc op [x] f := fun _ cx ok ρ S s r => h cx ok ρ S s r
theorem Jy {x y : Expr} {rest : List Expr} {f : AEnv → Res Bv} {g : AEnv → Res T} (hx : Qh G k sc x f) (hr : FH G k sc op (y :: rest) g) : FH G k sc op (x :: y :: rest) (eBo op f g) := by
 intro pos cx ok ρ S s r
 show QD G cx sc true (do
  let v ← eval x cx.env
  standAt pos
  let t ← holding [v] (truthy v)
  match op, t with
  | .And, false | .Or, true => pure v
  | _, _ => boolOp pos op (evalEach (y :: rest) cx.env)) S s _ _
 refine QD.bind (hx cx ok ρ S s r) fun a ρ₁ va h₁ t₁ S₁ _ r₁ ja x₁ v₁ => ?_
 refine QD.standAt (QD.ob fun d hd => QD.ob fun b hb => ?_)
 obtain rfl := VG hb
 obtain rfl := (Z5.rb ja r₁ hd).bool
 intro Q E out
 refine wpAny_bind (wpAny_holding (wpAny_truthy_bool ?_))
 cases op <;> cases b
 ·exact wpAny_pure (out _ h₁ t₁ S₁ r₁ (.bool _) (Ext.refl ..) fun _ => QR.refl _ _)
 ·exact hr pos cx ok ρ₁ S₁ _ r₁ Q E out
 ·exact hr pos cx ok ρ₁ S₁ _ r₁ Q E out
 ·exact wpAny_pure (out _ h₁ t₁ S₁ r₁ (.bool _) (Ext.refl ..) fun _ => QR.refl _ _)
theorem Js {es : List Expr} {pos : Pos} {f : AEnv → Res T} (h : FH G k sc op es f) : Sim G k sc (.BoolOp op es pos) f := fun cx ok ρ S s r => h pos cx ok ρ S s r
end
noncomputable def EP : D → Option T
 | .bool b => some (.sh (.bool !b))
 | _ => none
theorem HZ {G : Gd} : Op1 G (unaryOp .Not) EP := by
 intro cx sc ok ρ S s v x t rel rx e Q E out
 unfold EP at e; split at e
 ·cases e; rw [rx.bool]
  exact not_value (wpAny_truthy_bool (ZS out rel (tk := s.toks) (.bool _)))
 ·cases e
theorem BR {G : Gd} {k : Nat} {sc : Scope} {pos : Pos} {x : Str} {i : Int} {t : Tok} (hG : G.Ok) (hx : sc.names.lookup x = some .globalImplicit) (hv : G.mg x = some (.int i t)) (hd : (x == ("__debug__" : Str)) = false) : Sim G k sc (.Name x pos) (Qd (.int i)) := by
 intro cx ok ρ S s r Q E out
 refine Calls.Name_function_global (by rw [ok.hsc]; exact ok.hk) (by unfold Env.kindOf; rw [ok.hsc]; exact hx) (Calls.loadGlobal_global (mg := G.mg) (by rw [ok.hg]; exact hG.g.keeps r.base) hv ?_) hd
 exact out _ s.heap s.toks _ r (.int i t) (Ext.refl ..) fun _ => QR.refl _ _
noncomputable def ES (ds : List D) (i : Int) : Option D := if 0 ≤ i then (if i < 2 ^ 63 then ds[i.toNat]? else none) else if -(2 ^ 63) ≤ i ∧ -(ds.length : Int) ≤ i then ds[(i + ds.length).toNat]? else none
noncomputable def Xn : D → D → Option T
 | .tup ds, .int i => (ES ds i).map .sh
 | .list ds, .int i => (ES ds i).map .sh
 | _, _ => none
theorem Oc {i : Int} {n : Nat} (h0 : 0 ≤ i) (h1 : i < n) : seqIndex? i n = some i.toNat := by
 unfold seqIndex?
 have h2 : ¬ (i < 0) := by exact Int.not_lt.mpr h0
 simp only [h2, if_false]
 rw [if_pos (by simp only [Bool.and_eq_true, decide_eq_true_eq]; lia)]
set_option tactic.hygienic true in
theorem DQ {S : Addr → Prop} {h : Heap} {vs : Array Value} {ds : List D} {i : Int} {d : D} (q : RVs S h vs.toList ds) (e : ES ds i = some d) :
  ∃ v, RV S h v d ∧ -(2 ^ 63) ≤ i ∧ i < 2 ^ 63 ∧ ((0 ≤ i ∧ vs[i.toNat]? = some v ∧ seqIndex? i vs.size = some i.toNat) ∨ (i < 0 ∧ -(vs.size : Int) ≤ i ∧ vs[(i + vs.size).toNat]? = some v ∧ seqIndex? i vs.size = some (i + vs.size).toNat)) := by
 have hl : vs.size = ds.length := by rw [← q.length]; simp
 unfold ES at e
 split at e
 ·split at e
  ·obtain ⟨v, hv, rv⟩ := q.get e
   have hv' : vs[i.toNat]? = some v := by simpa using hv
   have := (Array.getElem?_eq_some_iff.mp hv').1
   refine ⟨v, rv, by lia, by omega, .inl ⟨by omega, hv', Oc (by omega) (by lia)⟩⟩
  ·cases e
 ·split at e
  ·rename_i hn hb
   obtain ⟨v, hv, rv⟩ := q.get e
   refine ⟨v, rv, hb.1, by lia, .inr ⟨by exact Int.not_le.mp hn, by lia, by rw [hl]; simpa using hv, seqIndex_neg (by exact Int.not_le.mp hn) (by lia)⟩⟩
  ·cases e
theorem HS {x y : D} {t : T} (e : Xn x y = some t) : ∃ ds i d, (y = .int i ∧ (x = .tup ds ∨ x = .list ds)) ∧ ES ds i = some d ∧ t = .sh d := by
 cases x with
 | tup ds =>
  cases y with
  | int i => obtain ⟨d, h, q⟩ := Option.map_eq_some_iff.mp e; exact ⟨ds, i, d, ⟨rfl, .inl rfl⟩, h, q.symm⟩
  | _ => exact nn e
 | list ds =>
  cases y with
  | int i => obtain ⟨d, h, q⟩ := Option.map_eq_some_iff.mp e; exact ⟨ds, i, d, ⟨rfl, .inr rfl⟩, h, q.symm⟩
  | _ => exact nn e
 | _ => exact nn e
theorem BW {G : Gd} {k : Nat} {sc : Scope} {value slice : Expr} {pos : Pos} {f g : AEnv → Res Bv} (hl : Qh G k sc value f) (hr : Qh G k sc slice g) (hs : ∀ o i, subscripted slice false o i = operate [o, i] (getItem o i)) :
  Sim G k sc (.Subscript value slice pos) (Qr Xn f g) := by
 intro cx ok ρ S s rel
 show QD G cx sc true (do let a ← eval value cx.env; let b ← holding [a] (eval slice cx.env); standAt pos; subscriptTail value slice a b) S s _ _
 refine Of (K := fun x y ρ₂ => ob (Xn x y) fun t => .ok t ρ₂) hl hr ok rel fun ρ' S' h' tk v w x y rel' rx ry => ?_
 refine QD.standAt (QD.ob fun t ht => ?_)
 intro Q E out
 obtain ⟨ds, i, d, hxy, hd, rfl⟩ := HS ht
 obtain ⟨u, rfl⟩ := RB.int (hxy.1 ▸ ry)
 rcases hxy.2 with rfl | rfl
 ·obtain ⟨a, o, vs, n, rfl, h1, h2, h3, q⟩ := rx.tup
  obtain ⟨y, rv, b1, b2, hy⟩ := DQ q hd
  have it : IsTup h' a vs := ⟨o, h1, h2, n, h3⟩
  have fin := out y h' tk S' rel' rv (Ext.refl ..) fun _ => QR.refl _ _
  refine tail_any (s := { s with heap := h', toks := tk }) it.typeIs slot_tuple_getitem.lookup ?_ (hs _ _)
  rcases hy with ⟨_, e1, e2⟩ | ⟨_, _, e1, e2⟩
  ·exact getItem_tuple it b1 b2 e2 e1 fin
  ·exact getItem_tuple it b1 b2 e2 e1 fin
 ·obtain ⟨a, o, vs, n, rfl, h1, h2, h3, q⟩ := rx.list
  obtain ⟨y, rv, b1, b2, hy⟩ := DQ q hd
  have it : h'.IsList a vs := ⟨o, h1, h2, n, h3⟩
  have fin := out y h' tk S' rel' rv (Ext.refl ..) fun _ => QR.refl _ _
  refine tail_any (s := { s with heap := h', toks := tk }) it.typeIs slot_list_getitem.lookup ?_ (hs _ _)
  rcases hy with ⟨e0, e1, _⟩ | ⟨e0, e0', e1, _⟩
  ·exact wpAny_getItem_list it e0 b2 e1 fin
  ·exact wpAny_getItem_list_neg it e0 e0' b1 e1 fin
noncomputable def Oo (ds : List D) (lo hi : Option Int) : List D := (ds.drop (lo.elim 0 (clipAt ds.length))).take (hi.elim ds.length (clipAt ds.length) - lo.elim 0 (clipAt ds.length))
noncomputable def YB (x : D) (lo hi : Option Int) : Option T := match x with
 | .tup ds => if ds.length ≤ 1000000 then some (.sh (.tup (Oo ds lo hi))) else none
 | .list ds => if ds.length ≤ 1000000 then some (.ow true (.list (Oo ds lo hi))) else none
 | _ => none
noncomputable def Hb (G : Gd) (k : Nat) (sc : Scope) (e : Option Expr) (f : AEnv → Res (Option Int)) : Prop :=
 ∀ cx, CxOk G cx sc k → ∀ ρ S s, Rel G cx sc ρ S s.heap → QD G cx sc true (evalPart e cx.env) S s (fun _ _ v b => IsPart v b) (f ρ)
noncomputable def Zt : AEnv → Res (Option Int) := fun ρ => .ok none ρ
noncomputable def Jf (f : AEnv → Res Bv) : AEnv → Res (Option Int) := fun ρ => (f ρ).bind fun a ρ₁ => ob ((a.get ρ₁).bind asI) fun i => .ok (some i) ρ₁
theorem Z0 {G : Gd} {k : Nat} {sc : Scope} : Hb G k sc none Zt := fun _ _ _ _ _ r => QD.pure r .none
theorem ZE {G : Gd} {k : Nat} {sc : Scope} {e : Expr} {f : AEnv → Res Bv} (h : Qh G k sc e f) : Hb G k sc (some e) (Jf f) := by
 intro cx ok ρ S s r Q E out
 refine h cx ok ρ S s r Q E ?_
 refine out.step0 fun a ρ' out v h' tk S' rel j x vs => ?_
 obtain ⟨i, hi, out⟩ := out.ob
 obtain ⟨t, rfl⟩ := (Z5.rb j rel (Lg hi)).int
 exact out _ h' tk S' rel (.int i t) x vs
theorem CS (lo hi : Option Int) (n : Nat) : Builtin.Slice.sliceAdjust lo hi 1 (n : Int) = (((lo.elim 0 (clipAt n) : Nat) : Int), ((hi.elim n (clipAt n) : Nat) : Int)) := by
 have h1 : ¬ ((1 : Int) < 0) := by decide
 unfold Builtin.Slice.sliceAdjust
 have clip : ∀ v : Int, (if v < 0 then max (v + (n : Int)) 0 else min v (n : Int)) = ((clipAt n v : Nat) : Int) := fun v => by
  rw [clipAt_cast]; split <;> lia
 simp only [h1, if_false, clip]
 cases lo <;> cases hi <;> simp
theorem C9 (a b : Nat) : Builtin.Slice.slicePlaces (a : Int) (b : Int) 1 = b - a := by
 unfold Builtin.Slice.slicePlaces
 have h1 : (1 : Int) > 0 := by exact Int.ofNat_nonneg _
 simp only [h1, if_true, Int.ediv_one]
 split <;> omega
section
variable {prog : Program} {w : World} {A : Around} {E : Value → Shared → Prop} {s : Shared}
theorem YN {v : Value} {p : Option Int} {Q : Option Int → Shared → Prop} (hv : IsPart v p) (h : Q p s) : wpAny (model prog w) A (Builtin.Slice.slicePartIndex v) Q E s := by
 cases hv with
 | none => exact slicePart_none h
 | int i t => exact slicePart_int h
theorem KL {sl : Addr} {vl vu : Value} {lo hi : Option Int} {n : Nat} {Q : Int × Int × Nat → Shared → Prop} (hs : s.heap.IsSliceOf sl vl vu .none) (pl : IsPart vl lo) (pu : IsPart vu hi)
  (h : Q (((lo.elim 0 (clipAt n) : Nat) : Int), 1, hi.elim n (clipAt n) - lo.elim 0 (clipAt n)) s) :
  wpAny (model prog w) A (Builtin.Slice.sliceApplied (.ref sl) (pure (n : Int))) Q E s := by
 obtain ⟨os, hos, hcs, hds⟩ := id hs
 unfold Builtin.Slice.sliceApplied Builtin.Slice.sliceFields
 refine wpAny_bind (wpAny_bind (wpAny_field hos hds (x := vl) rfl (wpAny_bind (wpAny_field hos hds (x := vu) rfl (wpAny_bind (wpAny_field hos hds (x := .none) rfl (wpAny_pure ?_)))))))
 refine wpAny_bind (slicePart_none ?_)
 show wpAny _ _ (if ((1 : Int) == 0) = true then _ else _) _ _ s
 rw [if_neg (by decide)]
 refine wpAny_bind (YN pl (wpAny_bind (YN pu (wpAny_bind (wpAny_pure ?_)))))
 show wpAny _ _ (match Builtin.Slice.sliceAdjust lo hi 1 (n : Int) with | (lo, hi) => pure (lo, (1 : Int), Builtin.Slice.slicePlaces lo hi 1)) _ _ s
 rw [CS]
 show wpAny _ _ (pure (_, (1 : Int), Builtin.Slice.slicePlaces _ _ 1)) _ _ s
 rw [C9]
 exact wpAny_pure h
theorem Fr (xs : Array Value) (a k : Nat) : ((List.range k).filterMap fun (j : Nat) => xs[((a : Int) + (j : Int) * 1).toNat]?).toArray = ((xs.toList.drop a).take k).toArray := by
 have e : (fun (k : Nat) => xs[((a : Int) + (k : Int) * 1).toNat]?) = fun k => xs[a + k]? := by
  funext k
  have : ((a : Int) + (k : Int) * 1).toNat = a + k := by exact (Nat.add_assoc _ _ _).symm
  rw [this]
 rw [e]
 have := pick_run xs a k
 rw [List.filterMap_map] at this
 have e2 : ((fun x => xs[x]?) ∘ fun x => a + x) = fun k => xs[a + k]? := rfl
 rw [e2] at this
 rw [this]
theorem Kh {t sl : Addr} {items : Array Value} {vl vu : Value} {lo hi : Option Int} {Q : Value → Shared → Prop} (ht : IsTup s.heap t items) (hs : s.heap.IsSliceOf sl vl vu .none) (pl : IsPart vl lo) (pu : IsPart vu hi)
  (h0 : (items.toList.drop (lo.elim 0 (clipAt items.size))).take (hi.elim items.size (clipAt items.size) - lo.elim 0 (clipAt items.size)) = items.toList → Q (.ref t) s)
  (h : Q (.ref s.heap.objs.size) { s with heap := s.heap.push { cls := .type "tuple", data := .seq ((items.toList.drop (lo.elim 0 (clipAt items.size))).take (hi.elim items.size (clipAt items.size) - lo.elim 0 (clipAt items.size))).toArray } })
  (hsz : items.size ≤ sizeLine) : wpAny (model prog w) A (getItem (.ref t) (.ref sl)) Q E s := by
 have hdrop : sizeOk (.seq ((items.toList.drop (lo.elim 0 (clipAt items.size))).take (hi.elim items.size (clipAt items.size) - lo.elim 0 (clipAt items.size))).toArray) := by
  show _ ≤ sizeLine
  rw [List.size_toArray, List.length_take, List.length_drop, Array.length_toList]
  lia
 obtain ⟨os, hos, hcs, hds⟩ := id hs
 have hTs : s.TypeIs (.ref sl) "slice" := ⟨os, hos, hcs⟩
 unfold getItem
 try with_reducible refine wpAny_holding ?_
 first | refine wpAny_bind (wpAny_pure ?_) | skip
 refine wpAny_bind (wpAny_sequenceKey ht.typeIs (by decide) ?_)
 refine wpAny_bind (wpAny_callSpecial?_slot (name := Str.ofString "__getitem__") ht.typeIs slot_tuple_getitem
  (wpAny_call_entry slot_tuple_getitem ht.typeIs entry_tuple_getitem ?_ (args_tuple_getitem _ _)))
 show wpAny _ _ (Builtin.Tuple.tupleItemsOf (.ref t) >>= _) _ _ s
 refine wpAny_bind (tupleItemsOf_ ht ?_)
 refine wpAny_bind (wpAny_typeOf hTs ?_)
 rw [if_pos (by decide)]
 refine wpAny_bind (KL hs pl pu ?_)
 generalize ha : (lo.elim 0 (clipAt items.size) : Nat) = a at *
 generalize hk : hi.elim items.size (clipAt items.size) - a = k at *
 show wpAny _ _ (if ((a : Int) == 0 && (1 : Int) == 1 && k == items.size) = true then _ else _) _ _ s
 by_cases hw : ((a : Int) == 0 && (1 : Int) == 1 && k == items.size) = true
 ·rw [if_pos hw]
  simp only [Bool.and_eq_true, beq_iff_eq] at hw
  have ha0 : a = 0 := by lia
  have hq : Q (.ref t) s := h0 (by rw [ha0, hw.2, List.drop_zero]; exact List.take_of_length_le (by simp))
  obtain ⟨o, ho, hc, n, hd⟩ := id ht
  refine wpAny_bind (m := Builtin.Tuple.tupleIsExact _) ?_
  unfold Builtin.Tuple.tupleIsExact
  refine wpAny_bind (wpAny_typeOf ht.typeIs (wpAny_pure ?_))
  rw [if_pos (by decide)]
  refine wpAny_bind (wpAny_rule ?_)
  exact wpAny_pure ⟨_, rfl, wpAny_pure hq⟩
 ·rw [if_neg hw, Fr items a k]
  first
   | exact wpAny_bind (m := Builtin.Tuple.tupleExact _) (wpAny_newObj_type (wpAny_pure ⟨_, rfl, wpAny_pure h⟩) hdrop)
   | exact wpAny_bind (m := Builtin.Tuple.tupleExact _) (wpAny_newObj_type (wpAny_bind (wpAny_pure (wpAny_pure ⟨_, rfl, wpAny_pure h⟩))) hdrop)
   | exact wpAny_bind (wpAny_bind (m := Builtin.Tuple.tupleExact _) (wpAny_newObj_type (wpAny_pure (wpAny_pure ⟨_, rfl, wpAny_pure h⟩)) hdrop))
   | exact wpAny_bind (wpAny_bind (m := Builtin.Tuple.tupleExact _) (wpAny_newObj_type (wpAny_pure ⟨_, rfl, wpAny_pure h⟩) hdrop))
end
noncomputable def ZQ (f : AEnv → Res Bv) (g h : AEnv → Res (Option Int)) : AEnv → Res T := fun ρ => (f ρ).bind fun a ρ₁ => (g ρ₁).bind fun lo ρ₂ => (h ρ₂).bind fun hi ρ₃ => ob (a.get ρ₃) fun x => ob (YB x lo hi) fun t => .ok t ρ₃
theorem RVs.cut {S : Addr → Prop} {h : Heap} {vs : Array Value} {ds : List D} (q : RVs S h vs.toList ds) (lo hi : Option Int) :
  RVs S h ((vs.toList.drop (lo.elim 0 (clipAt vs.size))).take (hi.elim vs.size (clipAt vs.size) - lo.elim 0 (clipAt vs.size))) (Oo ds lo hi) := by
 have hl : vs.size = ds.length := by rw [← q.length]; simp
 unfold Oo
 rw [hl]
 exact (q.drop _).take _
theorem Fm {x : D} {lo hi : Option Int} {t : T} (e : YB x lo hi = some t) : ∃ ds : List D, ds.length ≤ 1000000 ∧ ((x = .tup ds ∧ t = .sh (.tup (Oo ds lo hi))) ∨ (x = .list ds ∧ t = .ow true (.list (Oo ds lo hi)))) := by
 cases x with
 | tup ds => obtain ⟨h, q⟩ := ifs e; exact ⟨ds, h, .inl ⟨rfl, (Option.some.inj q).symm⟩⟩
 | list ds => obtain ⟨h, q⟩ := ifs e; exact ⟨ds, h, .inr ⟨rfl, (Option.some.inj q).symm⟩⟩
 | _ => exact nn e
theorem Z4 {G : Gd} {k : Nat} {sc : Scope} {value : Expr} {lower upper : Option Expr} {p pos : Pos} {f : AEnv → Res Bv} {g h : AEnv → Res (Option Int)} (hv : Qh G k sc value f) (hl : Hb G k sc lower g) (hu : Hb G k sc upper h) :
  Sim G k sc (.Subscript value (.Slice lower upper none p) pos) (ZQ f g h) := by
 intro cx ok ρ S s rel
 show QD G cx sc true (do let a ← eval value cx.env; let b ← holding [a] (eval (.Slice lower upper none p) cx.env); standAt pos; subscriptTail value (.Slice lower upper none p) a b) S s _ _
 unfold ZQ
 refine QD.bind (hv cx ok ρ S s rel) fun a ρ₁ va h₁ t₁ S₁ _ r₁ ja x₁ v₁ => ?_
 intro Q E out
 refine wpAny_bind (wpAny_holding (wpAny_Slice ?_))
 refine hl cx ok ρ₁ S₁ { s with heap := h₁, toks := t₁ } r₁ _ _ ?_
 refine out.step0 fun lo ρ₂ out vl h₀ t₀ S₀ r₀ pl x₀ v₀ => ?_
 refine hu cx ok ρ₂ S₀ { s with heap := h₀, toks := t₀ } r₀ _ _ ?_
 refine out.step (x₀) fun hi ρ₃ out vu h₂ t₂ S₂ r₂ pu x₂' v₂' => ?_
 have x₂ := x₀.trans x₂'
 have v₂ : true = true → QR cx.env h₁ h₂ := fun q => (v₀ q).trans (v₂' q)
 rw [evalPart_none]
 refine wpAny_pure ?_
 refine wpAny_bind (wpAny_standAt ?_)
 have ja₂ : Z5 cx sc S₂ h₂ va a := Z5.ext ja x₂ (v₂ rfl)
 obtain ⟨x, hx, out⟩ := out.ob
 obtain ⟨t, ht, out⟩ := out.ob
 have rx := ja₂.rb r₂ hx
 have hsl : subscripted (.Slice lower upper none p) false va (.ref h₂.objs.size) = operate [.ref h₂.objs.size, va] (getItem va (.ref h₂.objs.size)) := rfl
 have rp := Rel.push (s := { s with heap := h₂ }) r₂ { cls := .type "slice", data := .fields #[vl, vu, .none] }
 have xp : Ext S₂ h₂ S₂ _ := Xr { cls := .type "slice", data := .fields #[vl, vu, .none] }
 obtain ⟨ds, hlen, ⟨rfl, rfl⟩ | ⟨rfl, rfl⟩⟩ := Fm ht
 ·obtain ⟨a', o, vs, n, rfl, h1, h2, h3, q⟩ := rx.tup
  have hls : vs.size = ds.length := by rw [← q.length]; exact Array.length_toList.symm
  have it : IsTup (h₂.push { cls := .type "slice", data := .fields #[vl, vu, .none] }) a' vs := ⟨o, Heap.get?_push_of_some _ h1, h2, n, h3⟩
  refine tail_any (s := { s with heap := h₂.push { cls := .type "slice", data := .fields #[vl, vu, .none] }, toks := t₂ }) it.typeIs slot_tuple_getitem.lookup ?_ hsl
  refine Kh it (Heap.IsSliceOf.new ..) pl pu (fun he => ?_) ?_ (by rw [hls, sizeLine_eq]; exact Nat.le_trans hlen (by decide))
  ·refine out _ _ t₂ S₂ rp ?_ (x₂.trans xp) fun q => (v₂ q).trans (r₂.same (XY _))
   have := q.cut lo hi
   rw [he] at this
   exact .tup (Heap.get?_push_of_some _ h1) h2 h3 (this.ext xp)
  ·refine out _ _ t₂ S₂ (Rel.push (s := { s with heap := h₂.push _ }) rp _) ?_ ((x₂.trans xp).trans (Xr _)) fun q => ((v₂ q).trans (r₂.same (XY _))).trans (rp.same (XY _))
   exact .tup (Heap.get?_push_size _ rfl) rfl rfl (((q.cut lo hi).ext xp).ext (Xr _))
 ·obtain ⟨a', o, vs, n, rfl, h1, h2, h3, q⟩ := rx.list
  have hls : vs.size = ds.length := by rw [← q.length]; exact Array.length_toList.symm
  have it : (h₂.push { cls := .type "slice", data := .fields #[vl, vu, .none] }).IsList a' vs := ⟨o, Heap.get?_push_of_some _ h1, h2, n, h3⟩
  refine tail_any (s := { s with heap := h₂.push { cls := .type "slice", data := .fields #[vl, vu, .none] }, toks := t₂ }) it.typeIs slot_list_getitem.lookup ?_ hsl
  refine wpAny_getItem_list_slice it (Heap.IsSliceOf.new ..) pl pu .none (by decide) ?_ (by rw [hls, sizeLine_eq]; exact Nat.le_trans hlen (by decide))
  refine out _ _ t₂ S₂ (Rel.push (s := { s with heap := h₂.push _ }) rp _) ?_ ((x₂.trans xp).trans (Xr _)) fun q => ((v₂ q).trans (r₂.same (XY _))).trans (rp.same (XY _))
  refine ZU (s := { s with heap := h₂.push _ }) rp (XY _) (Heap.get?_none_of_le (Nat.le_refl _)) (Heap.get?_push_size _ rfl) ?_
  rw [slicePick_plain]
  simpa using ((q.cut lo hi).ext xp).ext (Xr _)
noncomputable def Xg : D → D → Option T
 | .int a, .int b => some (.sh (.int (a + b)))
 | .list xs, .list ys => if xs.length + ys.length ≤ 1000000 then some (.ow true (.list (xs ++ ys))) else none
 | .tup xs, .tup ys => if xs.length + ys.length ≤ 1000000 then some (.sh (.tup (xs ++ ys))) else none
 | _, _ => none
theorem RVs.nil_iff {S : Addr → Prop} {h : Heap} {vs : List Value} {ds : List D} (q : RVs S h vs ds) : vs = [] ↔ ds = [] := by
 have := q.length
 constructor
 ·rintro rfl; exact List.length_eq_zero_iff.mp this.symm
 ·rintro rfl; exact List.length_eq_zero_iff.mp this
theorem Xc {G : Gd} : Op2 G (binaryOp .Add) Xg := by
  intro cx sc ok ρ S s v w x y t rel rx ry e Q E out
  cases x with
  | int a =>
   cases y with
   | int b =>
    obtain ⟨_, rfl⟩ := rx.int; obtain ⟨_, rfl⟩ := ry.int; cases e
    exact PySem.P.add_int (ZS out rel (.int _ _))
   | _ => exact nn e
  | list xs =>
   cases y with
   | list ys =>
    · obtain ⟨hl, e⟩ := ifs e
      cases e
      obtain ⟨a, ⟨cls, dd, data, sl⟩, vs, n, rfl, h1, h2, h3, q1⟩ := rx.list
      obtain ⟨b, ⟨cls', dd', data', sl'⟩, ws, m, rfl, g1, g2, g3, q2⟩ := ry.list
      simp only at h2 h3 g2 g3
      subst h2 h3 g2 g3
      have l1 : vs.size = xs.length := by rw [← q1.length]; simp
      have l2 : ws.size = ys.length := by rw [← q2.length]; simp
      refine concat_meets ⟨_, h1, rfl⟩ ⟨_, g1, rfl⟩ noFill_list_add seq_list_add PySem.F.slot_list_add PySem.F.entry_list_add (PySem.F.args_list_add_2 _ _) (list_addW a b vs ws n m dd dd' sl sl' (by rw [l1, l2, sizeLine_eq]; exact omB hl)) ⟨h1, g1, ?_⟩
      refine out _ _ s.toks S (rel.push _) ?_ (Xr _) fun _ => rel.same (XY _)
      refine ZU rel (XY _) (Heap.get?_none_of_le (Nat.le_refl _)) (Heap.get?_push_size _ rfl) ?_
      rw [Array.toList_append]
      exact (q2.append q1).ext (Xr _)
   | _ => exact nn e
  | tup xs =>
   cases y with
   | tup ys =>
    · obtain ⟨hl, e⟩ := ifs e
      cases e
      obtain ⟨a, ⟨cls, dd, data, sl⟩, vs, n, rfl, h1, h2, h3, q1⟩ := rx.tup
      obtain ⟨b, ⟨cls', dd', data', sl'⟩, ws, m, rfl, g1, g2, g3, q2⟩ := ry.tup
      simp only at h2 h3 g2 g3
      subst h2 h3 g2 g3
      have l1 : vs.size = xs.length := by rw [← q1.length]; simp
      have l2 : ws.size = ys.length := by rw [← q2.length]; simp
      by_cases c1 : vs.isEmpty = true
      · refine concat_meets ⟨_, h1, rfl⟩ ⟨_, g1, rfl⟩ noFill_tuple_add seq_tuple_add PySem.F.slot_tuple_add PySem.F.entry_tuple_add (PySem.F.args_tuple_add_2 _ _) (tuple_addW0 a b vs ws n m dd dd' sl sl' c1) ⟨h1, g1, ?_⟩
        have : xs = [] := (q1.nil_iff).mp (by simpa using c1)
        subst this
        exact out _ _ s.toks S rel (.tup g1 rfl rfl q2) (Ext.refl ..) fun _ => QR.refl _ _
      · by_cases c2 : ws.isEmpty = true
        · refine concat_meets ⟨_, h1, rfl⟩ ⟨_, g1, rfl⟩ noFill_tuple_add seq_tuple_add PySem.F.slot_tuple_add PySem.F.entry_tuple_add (PySem.F.args_tuple_add_2 _ _) (tuple_addW1 a b vs ws n m dd dd' sl sl' c1 c2) ⟨h1, g1, ?_⟩
          have : ys = [] := (q2.nil_iff).mp (by simpa using c2)
          subst this
          rw [List.append_nil] at out
          exact out _ _ s.toks S rel (.tup h1 rfl rfl q1) (Ext.refl ..) fun _ => QR.refl _ _
        · refine concat_meets ⟨_, h1, rfl⟩ ⟨_, g1, rfl⟩ noFill_tuple_add seq_tuple_add PySem.F.slot_tuple_add PySem.F.entry_tuple_add (PySem.F.args_tuple_add_2 _ _) (tuple_addW2 a b vs ws n m dd dd' sl sl' c1 c2 (by rw [l1, l2, sizeLine_eq]; exact omB hl)) ⟨h1, g1, ?_⟩
          refine out _ _ s.toks S (rel.push _) ?_ (Xr _) fun _ => rel.same (XY _)
          refine .tup (Heap.get?_push_size _ rfl) rfl rfl ?_
          rw [Array.toList_append]
          exact (q2.append q1).ext (Xr _)
   | _ => exact nn e
  | _ => exact nn e
noncomputable def WL : D → D → Option T
 | .int a, .int b => if small a || small b then some (.sh (.int (a * b))) else none
 | .list [x], .int n => if 0 ≤ n ∧ n ≤ 1000000 then some (.ow true (.list (List.replicate n.toNat x))) else none
 | _, _ => none
theorem RVs.replicate {S : Addr → Prop} {h : Heap} {v : Value} {d : D} (q : RV S h v d) : ∀ (n : Nat), RVs S h (List.replicate n v) (List.replicate n d)
 | 0 => .nil
 | n + 1 => by rw [List.replicate_succ, List.replicate_succ]; exact .cons q (RVs.replicate q n)
theorem CJ (v : Value) : ∀ (n : Nat) (acc : Array Value), (List.foldl (fun x1 x2 => x1 ++ x2) acc (List.replicate n #[v])).toList = acc.toList ++ List.replicate n v
 | 0, acc => by simp
 | n + 1, acc => by
  rw [List.replicate_succ, List.foldl_cons, CJ v n]
  simp [List.replicate_succ]
theorem Wf {G : Gd} : Op2 G (binaryOp .Mult) WL := by
  intro cx sc ok ρ S s v w x y t rel rx ry e
  cases x with
  | int a =>
   cases y with
   | int b => exact Li cx sc ok ρ S s v w _ _ t rel rx ry e
   | _ => exact nn e
  | list xs =>
   cases xs with
   | nil => exact nn e
   | cons d xs =>
   cases xs with
   | cons _ _ => exact nn e
   | nil =>
   cases y with
   | int n =>
    · obtain ⟨hn, e⟩ := ifs e
      cases e
      obtain ⟨a, ⟨cls, dd, data, sl⟩, vs, m, rfl, h1, h2, h3, q1⟩ := rx.list
      obtain ⟨u, rfl⟩ := ry.int
      simp only at h2 h3
      subst h2 h3
      intro Q E out
      have hone : ∃ v, vs = #[v] ∧ RV S s.heap v d := by
        obtain ⟨l⟩ := vs
        simp only at q1
        cases q1 with | cons q r => cases r; exact ⟨_, rfl, q⟩
      obtain ⟨v, rfl, qv⟩ := hone
      refine wpAny_binaryOp_repeat_ref (T := "list") (U := "int") (by decide) ⟨_, h1, rfl⟩ (fun s' => typeIs_int s' n u) noFill_list_mul F.fills_int_mul F.slot_int_rmul repeat_list F.slot_int_index.lookup
        (call_meets F.slot_int_rmul (typeIs_int s n u) F.entry_int_rmul (F.args_int_rmul_2 _ _) (lm_int_rmul_list_any n u a #[v] m dd sl)
          ⟨h1, rfl, ⟨_, h1, rfl⟩, call_meets F.slot_list_mul ⟨_, h1, rfl⟩ F.entry_list_mul (F.args_list_mul_2 _ _)
            (lm_list_mul_any a #[v] m dd sl n u (by simp [Builtin.List.listFitsIndex]; lia) (by simp; lia) (by simp [Builtin.List.listTooLong, sizeLine]; lia))
            ⟨h1, ?_⟩⟩)
      refine out _ _ s.toks S (rel.push _) ?_ (Xr _) fun _ => rel.same (XY _)
      refine ZU rel (XY _) (Heap.get?_none_of_le (Nat.le_refl _)) (Heap.get?_push_size _ rfl) ?_
      rw [show (#[v] : Array Value).isEmpty = false from rfl]
      simp only [Bool.false_eq_true, if_false]
      rw [CJ]
      exact (RVs.replicate qv n.toNat).ext (Xr _)
   | _ => exact nn e
  | _ => exact nn e
end Mine
end

section
set_option Elab.async false
set_option maxRecDepth 100000
namespace Mine
open PySem PyProof.Rows
section
variable {G : Gd}
noncomputable def one (F : D → Option T) : List D → Option T
 | [x] => F x
 | _ => none
theorem W5 {F : D → Option T} {ds : List D} {t : T} (e : one F ds = some t) : ∃ x, ds = [x] ∧ F x = some t := by
 cases ds with
 | nil => exact nn e
 | cons x ds =>
  cases ds with
  | nil => exact ⟨x, rfl, e⟩
  | cons _ _ => exact nn e
noncomputable def LS : D → Option T
 | .list ds => if ds.length ≤ 1000000 then some (.sh (.int ds.length)) else none
 | .tup ds => if ds.length ≤ 1000000 then some (.sh (.int ds.length)) else none
 | _ => none
noncomputable def YD : List D → Option T := one LS
theorem RBs.one {S : Addr → Prop} {h : Heap} {vs : List Value} {d : D} (q : RBs S h vs [d]) : ∃ v, vs = [v] ∧ RB S h v d := by
 cases q with | cons a b => cases b; exact ⟨_, rfl, a⟩
theorem RBs.two {S : Addr → Prop} {h : Heap} {vs : List Value} {d e : D} (q : RBs S h vs [d, e]) : ∃ v w, vs = [v, w] ∧ RB S h v d ∧ RB S h w e := by
 cases q with | cons a b => obtain ⟨w, rfl, r⟩ := b.one; exact ⟨_, _, rfl, a, r⟩
theorem Zu : OpN G (fun vs => call (.builtin "len") vs []) YD := by
 intro cx sc ok ρ S s vs ds t rel q e Q E out
 obtain ⟨d, rfl, e⟩ := W5 e
 cases d with
 | list ds =>
  obtain ⟨hl, e⟩ := ifs e
  cases e
  obtain ⟨v, rfl, r⟩ := q.one
  obtain ⟨a, o, us, n, rfl, h1, h2, h3, k⟩ := r.list
  have hs := k.length
  rw [Array.length_toList] at hs
  refine PyProof.Rows.len_list ⟨o, h1, h2, n, h3⟩ (by rw [hs]; exact Int.ofNat_lt.mpr (Nat.lt_of_le_of_lt hl (by decide))) ?_
  rw [hs]
  exact ZS out rel (.int _ _)
 | tup ds =>
  obtain ⟨hl, e⟩ := ifs e
  cases e
  obtain ⟨v, rfl, r⟩ := q.one
  obtain ⟨a, o, us, n, rfl, h1, h2, h3, k⟩ := r.tup
  have hs := k.length
  rw [Array.length_toList] at hs
  refine PyProof.Rows.len_tuple ⟨o, h1, h2, n, h3⟩ (by rw [hs]; exact Int.ofNat_lt.mpr (Nat.lt_of_le_of_lt hl (by decide))) ?_
  rw [hs]
  exact ZS out rel (.int _ _)
 | _ => exact nn e
noncomputable def XN : List D → Option T
 | [x] => (asI x).map fun n => .sh (.range 0 n 1)
 | [x, y] => (asI x).bind fun a => (asI y).map fun b => .sh (.range a b 1)
 | [x, y, z] => (asI x).bind fun a => (asI y).bind fun b => (asI z).bind fun c => if c ≠ 0 ∧ c.natAbs < 1073741824 then some (.sh (.range a b c)) else none
 | _ => none
theorem EK {ds : List D} {t : T} (e : XN ds = some t) : (∃ n, ds = [.int n] ∧ t = .sh (.range 0 n 1)) ∨ (∃ n m, ds = [.int n, .int m] ∧ t = .sh (.range n m 1)) ∨ ∃ n m c, ds = [.int n, .int m, .int c] ∧ (c ≠ 0 ∧ c.natAbs < 1073741824) ∧ t = .sh (.range n m c) := by
 cases ds with
 | nil => exact nn e
 | cons x ds =>
  cases ds with
  | nil =>
   obtain ⟨n, h1, rfl⟩ := Option.map_eq_some_iff.mp e
   obtain rfl := JD h1
   exact .inl ⟨n, rfl, rfl⟩
  | cons y ds =>
   cases ds with
   | nil =>
    obtain ⟨n, h1, e⟩ := Option.bind_eq_some_iff.mp e
    obtain ⟨m, h2, rfl⟩ := Option.map_eq_some_iff.mp e
    obtain rfl := JD h1
    obtain rfl := JD h2
    exact .inr (.inl ⟨n, m, rfl, rfl⟩)
   | cons z ds =>
    cases ds with
    | nil =>
     obtain ⟨n, h1, e⟩ := Option.bind_eq_some_iff.mp e
     obtain ⟨m, h2, e⟩ := Option.bind_eq_some_iff.mp e
     obtain ⟨c, h3, e⟩ := Option.bind_eq_some_iff.mp e
     obtain ⟨hc, e4⟩ := ifs (c := c ≠ 0 ∧ c.natAbs < 1073741824) (a := some (T.sh (.range n m c))) e
     obtain rfl := JD h1
     obtain rfl := JD h2
     obtain rfl := JD h3
     cases e4
     exact .inr (.inr ⟨n, m, c, rfl, hc, rfl⟩)
    | cons _ _ => exact nn e
theorem RBs.three {S : Addr → Prop} {h : Heap} {vs : List Value} {d e f : D} (q : RBs S h vs [d, e, f]) : ∃ v w u, vs = [v, w, u] ∧ RB S h v d ∧ RB S h w e ∧ RB S h u f := by
 cases q with | cons a b => obtain ⟨w, u, rfl, r, r'⟩ := b.two; exact ⟨_, _, _, rfl, a, r, r'⟩
theorem Zs : OpN G (fun vs => call (.type "range") vs []) XN := by
 intro cx sc ok ρ S s vs ds t rel q e Q E out
 rcases EK e with ⟨n, rfl, rfl⟩ | ⟨n, m, rfl, rfl⟩ | ⟨n, m, c, rfl, hc, rfl⟩
 ·skip
  obtain ⟨v, rfl, r⟩ := q.one
  obtain ⟨u, rfl⟩ := r.int
  exact call_range_1 (out _ _ _ S (rel.push _) (.range (IsRange.new ..)) (Xr _) fun _ => rel.same (XY _))
 ·skip
  obtain ⟨v, w, rfl, r, r'⟩ := q.two
  obtain ⟨u, rfl⟩ := r.int
  obtain ⟨u', rfl⟩ := r'.int
  exact call_range_2 (out _ _ _ S (rel.push _) (.range (IsRange.new ..)) (Xr _) fun _ => rel.same (XY _))
 ·skip
  ·obtain ⟨v, w, x, rfl, r, r', r''⟩ := q.three
   obtain ⟨u, rfl⟩ := r.int
   obtain ⟨u', rfl⟩ := r'.int
   obtain ⟨u'', rfl⟩ := r''.int
   exact call_range_3 hc.1 (out _ _ _ S (rel.push _) (.range (IsRange.new ..)) (Xr _) fun _ => rel.same (XY _)) (.inl (PyProof.noPylong_small hc.2))
end
noncomputable def KK (lo hi st : Int) : Nat := (Builtin.Range.rangeSize lo hi st).toNat
noncomputable def Wh (lo hi st : Int) : List D := (List.range (KK lo hi st)).map fun (i : Nat) => .int (lo + i * st)
noncomputable def Yk (lo hi st : Int) : Bool := Builtin.Range.small lo hi st && decide (Builtin.Range.rangeSize lo hi st ≤ 1000000) && decide (0 ≤ Builtin.Range.rangeSize lo hi st)
theorem Kz {lo hi st : Int} (h : Yk lo hi st = true) : Builtin.Range.small lo hi st = true ∧ Builtin.Range.rangeSize lo hi st = (KK lo hi st : Int) ∧ KK lo hi st ≤ 1000000 := by
 unfold Yk at h
 simp only [Bool.and_eq_true, decide_eq_true_eq] at h
 refine ⟨h.1.1, ?_, ?_⟩ <;> unfold KK <;> lia
theorem RVs.of_get {S : Addr → Prop} {h : Heap} : ∀ {vs : List Value} {ds : List D}, vs.length = ds.length → (∀ (j : Nat) v, vs[j]? = some v → ∃ d, ds[j]? = some d ∧ RV S h v d) → RVs S h vs ds
 | [], [], _, _ => .nil
 | [], _ :: _, e, _ => by simp at e
 | _ :: _, [], e, _ => by simp at e
 | v :: vs, d :: ds, e, k => by
  obtain ⟨d', hd, q⟩ := k 0 v rfl
  simp at hd; subst hd
  exact .cons q (RVs.of_get (by simpa using e) fun j w hw => by simpa using k (j + 1) w (by simpa using hw))
theorem O7 {S : Addr → Prop} {h : Heap} {lo st : Int} {n : Nat} {acc : Array Value} (q : ItemsOf (fun i v => ∃ t, v = .int (lo + i * st) t) acc n) : RVs S h acc.toList ((List.range n).map fun (i : Nat) => D.int (lo + i * st)) := by
 refine RVs.of_get (by simp [q.1]) fun j v hv => ?_
 have hv' : acc[j]? = some v := by simpa using hv
 obtain ⟨t, rfl⟩ := q.2 j v hv'
 have hj : j < n := by
  have := (Array.getElem?_eq_some_iff.mp hv').1
  rw [q.1] at this; exact this
 exact ⟨.int (lo + j * st), by simp [hj], .int _ _⟩
section
variable {prog : Program} {w : World} {A : Around} {E : Value → Shared → Prop} {s : Shared}
theorem Kg {Q : List Value → Shared → Prop} {r : Addr} {a b c : Int} {t u v : Tok} {n : Nat} (hh : A.handled = none) (hr : IsRange s.heap r a b c t u v) (hsmall : Builtin.Range.small a b c = true)
  (hn : Builtin.Range.rangeSize a b c = n) (hlen : n ≤ 2 ^ 24)
  (hQ : ∀ h' tk (acc : Array Value), (∀ b o', s.heap.get? b = some o' → h'.get? b = some o') → ItemsOf (fun i v => ∃ t, v = .int (a + i * c) t) acc n → Q acc.toList { s with heap := h', toks := tk }) :
  wpAny (model prog w) A (collect (.ref r)) Q E s := by
 unfold collect
 refine wpAny_bind (wpAny_runValue (codeAny_builtin F.entry_proto_collect ?_))
 rw [Around.under_plainId F.plain_proto_collect _]
 show wpAny _ A.in1 (newList [] >>= fun l => again (.builtin "list.__iadd__" ⟨[l, .ref r], []⟩)) _ _ s
 refine wpAny_bind (wpAny_newObj_type ?_)
 refine wpAny_pure ⟨plainId_quiet F.plain_list_iadd _, codeAny_builtin F.entry_list_iadd ?_⟩
 rw [Around.under_plainId F.plain_list_iadd _]
 show wpAny _ A.in1 (Builtin.List.listExtendWith (.ref s.heap.objs.size) (.ref r) (.ref s.heap.objs.size)) _ _ _
 have hS : (s.heap.push { cls := .type "list", data := .seq ([] : List Value).toArray }).get? s.heap.objs.size = some { cls := .type "list", data := .seq #[] 0 } := Heap.get?_push_size _ rfl
 have fin' : ∀ h' tk (acc : Array Value) c', (∀ b o, b ≠ s.heap.objs.size → (s.heap.push { cls := .type "list", data := .seq ([] : List Value).toArray }).get? b = some o → h'.get? b = some o) → h'.get? s.heap.objs.size = some { cls := .type "list", dict := none, data := .seq acc c', slots := #[] } → ItemsOf (fun i v => ∃ t, v = .int (a + i * c) t) acc n → wpAny (model prog w) A (match Value.ref s.heap.objs.size with
   | Value.ref a => do
    match (← load a).data with
     | Data.seq xs _ => pure xs.toList
     | _ => unsupported "internal:collect"
   | _ => unsupported "internal:collect") Q E { s with heap := h', toks := tk } := by
  intro h' tk acc c' hk hS' hacc
  show wpAny _ A (load s.heap.objs.size >>= _) _ _ _
  refine wpAny_bind (wpAny_load hS' ?_)
  refine wpAny_pure ?_
  exact hQ _ _ _ (fun b o' hb => hk b o' (Nat.ne_of_lt (Heap.lt_size hb)) (Heap.get?_push_of_some _ hb)) hacc
 refine wpAny_mono (wpAny_extend_range (A := A) (R := fun r s' => ∃ h' tk acc c', (∀ b o, b ≠ s.heap.objs.size → (s.heap.push { cls := .type "list", data := .seq ([] : List Value).toArray }).get? b = some o → h'.get? b = some o) ∧ h'.get? s.heap.objs.size = some { cls := .type "list", dict := none, data := .seq acc c', slots := #[] } ∧ ItemsOf (fun i v => ∃ t, v = .int (a + i * c) t) acc n ∧ r = .ok (.ret (.ref s.heap.objs.size)) ∧ s' = { s with heap := h', toks := tk })
  (s := { s with heap := s.heap.push { cls := .type "list", data := .seq ([] : List Value).toArray } }) hh (Heap.get?_push_of_some _ hr) hsmall hn hlen _ _ 0 hS fun h' tk acc c' hk hS' hacc => ⟨h', tk, acc, c', hk, hS', hacc, rfl, rfl⟩) (fun fin s' h => ?_) (fun e s' h => ?_)
 ·cases fin with
  | done f =>
   obtain ⟨h', tk, acc, c', hk, hS', hacc, e, rfl⟩ := h
   cases e
   exact fin' h' tk acc c' hk hS' hacc
  | again c' => exact ⟨h.1, codeAny_mono h.2 fun r s'' hr => by obtain ⟨h', tk, acc, c', hk, hS', hacc, rfl, rfl⟩ := hr; exact fin' h' tk acc c' hk hS' hacc⟩
 ·obtain ⟨_, _, _, _, _, _, _, e, _⟩ := h; cases e
end
open AutoSeq1 (wpAny_loadPart') in
theorem Wz {r : Addr} {a b c : Int} {t u v : Tok} {n : Nat} (hsmall : Builtin.Range.small a b c = true) (hn : Builtin.Range.rangeSize a b c = n) (hlen : n ≤ 2 ^ 24) :
  Meets (Builtin.«tuple.__new__» ⟨[.type "tuple", .ref r], []⟩)
   (fun A R s => A.handled = none ∧ IsRange s.heap r a b c t u v ∧ ∀ (h' : Heap) (tk : Nat) (acc : Array Value), (∀ b o', s.heap.get? b = some o' → h'.get? b = some o') → ItemsOf (fun i v => ∃ t, v = .int (a + i * c) t) acc n → R (.ok (.ret (.ref h'.objs.size))) { s with heap := h'.push { cls := .type "tuple", data := .seq acc }, toks := tk }) :=
 .of_wp fun prog w A R s h => by
  obtain ⟨hp, g, d, tk, os⟩ := s; obtain ⟨hh, ht, h⟩ := h
  have hsub := sub_tuple_self
  have hinit := init_tuple_lookup
  have hmh := madeHere_tuple
  have hT : Shared.TypeIs ⟨hp, g, d, tk, os⟩ (.ref r) "range" := ⟨_, ht, rfl⟩
  wp_walk using wpAny_loadPart' ht, wpAny_typeOf hT, Kg (A := A.in1) hh ht hsmall hn hlen
  intro h' tk' acc hk hacc
  show wpAny _ _ (Builtin.Tuple.tupleExact acc.toList.toArray >>= fun v => ret v) _ _ _
  unfold Builtin.Tuple.tupleExact
  refine wpAny_bind (wpAny_newObj_type ?_ (by show acc.toList.toArray.size ≤ sizeLine; have := hacc.1; simp only [Array.toArray_toList]; rw [sizeLine_eq]; exact le_of_eq_of_le this hlen))
  refine wpAny_pure ⟨_, rfl, ?_⟩
  have e : acc.toList.toArray = acc := by simp
  rw [e]
  exact h h' tk' acc hk hacc
theorem OC {prog : Program} {w : World} {A : Around} {E : Value → Shared → Prop} {s : Shared} {r : Addr} {a b c : Int} {t u v : Tok} {n : Nat} {Q : Value → Shared → Prop} (hh : A.handled = none) (hr : IsRange s.heap r a b c t u v) (hsmall : Builtin.Range.small a b c = true)
  (hn : Builtin.Range.rangeSize a b c = n) (hlen : n ≤ 2 ^ 24)
  (h : ∀ (h' : Heap) (tk : Nat) (acc : Array Value), (∀ b o', s.heap.get? b = some o' → h'.get? b = some o') → ItemsOf (fun i v => ∃ t, v = .int (a + i * c) t) acc n → Q (.ref h'.objs.size) { s with heap := h'.push { cls := .type "tuple", data := .seq acc }, toks := tk }) :
  wpAny (model prog w) A (call (.type "tuple") [.ref r]) Q E s :=
 callType_new F.called_tuple (by decide) (F.typeCall_tuple_1 _) (F.newCall_tuple_1 _) (fun obj => F.args_object_init_2 obj _) F.entry_tuple_new
  (Wz hsmall hn hlen) ⟨hh, hr, fun h' tk acc hk hacc => ⟨⟨_, Heap.get?_push_size _ rfl, rfl⟩, h h' tk acc hk hacc⟩⟩
section
variable {G : Gd}
noncomputable def LO : D → Option T
 | .list ds => if ds.length ≤ 1000000 then some (.ow true (.list ds)) else none
 | .tup ds => if ds.length ≤ 1000000 then some (.ow true (.list ds)) else none
 | .range lo hi st => if Yk lo hi st then some (.ow true (.list (Wh lo hi st))) else none
 | _ => none
noncomputable def Yv : List D → Option T := one LO
theorem Rel.keepsE {cx : Cx} {sc : Scope} {ρ : AEnv} {S : Addr → Prop} {h h' : Heap} (r : Rel G cx sc ρ S h) (k : ∀ b o, h.get? b = some o → h'.get? b = some o) : Rel G cx sc ρ S h' ∧ Ext S h S h' ∧ QR cx.env h h' := ⟨r.keeps k, Ext.of_keeps k, r.same (.of_keeps k)⟩
theorem YR (hq : G.quiet = true) : OpN G (fun vs => call (.type "list") vs []) Yv := by
 intro cx sc ok ρ S s vs ds t rel q e Q E out
 have hsz : s.heap.get? s.heap.objs.size = none := Heap.get?_none_of_le (Nat.le_refl _)
 obtain ⟨d, rfl, e⟩ := W5 e
 cases d with
 | list ds =>
  obtain ⟨hl, e⟩ := ifs e
  cases e
  obtain ⟨v, rfl, r⟩ := q.one
  obtain ⟨a, o, us, n, rfl, h1, h2, h3, k⟩ := r.list
  have hs := k.length
  rw [Array.length_toList] at hs
  refine call_list_seq a (.inl rfl) h1 h2 h3 (fun h' c' hk hD => ?_) (by rw [hs, sizeLine_eq]; exact omB hl)
  obtain ⟨r', x', v'⟩ := rel.keepsE hk
  exact out _ h' s.toks S r' (ZU rel (.of_keeps hk) hsz hD (k.ext x')) x' fun _ => v'
 | tup ds =>
  obtain ⟨hl, e⟩ := ifs e
  cases e
  obtain ⟨v, rfl, r⟩ := q.one
  obtain ⟨a, o, us, n, rfl, h1, h2, h3, k⟩ := r.tup
  have hs := k.length
  rw [Array.length_toList] at hs
  refine call_list_seq a (.inr rfl) h1 h2 h3 (fun h' c' hk hD => ?_) (by rw [hs, sizeLine_eq]; exact omB hl)
  obtain ⟨r', x', v'⟩ := rel.keepsE hk
  exact out _ h' s.toks S r' (ZU rel (.of_keeps hk) hsz hD (k.ext x')) x' fun _ => v'
 | range lo hi st =>
  obtain ⟨hf, e⟩ := ifs e
  cases e
  obtain ⟨f1, f2, f3⟩ := Kz hf
  obtain ⟨v, rfl, r⟩ := q.one
  have r := r.rv fun _ e => by cases e
  cases r with
  | range hr =>
   refine call_list_range (ok.hd hq) hr f1 f2 (by exact Nat.le_trans f3 (Nat.le_add_left _ _)) fun h' tk acc c' hk hD hacc => ?_
   obtain ⟨r', x', v'⟩ := rel.keepsE hk
   exact out _ h' tk S r' (ZU rel (.of_keeps hk) hsz hD (O7 hacc)) x' fun _ => v'
 | _ => exact nn e
noncomputable def I7 : D → Option T
 | .list ds => if ds.length ≤ 1000000 then some (.sh (.tup ds)) else none
 | .tup ds => some (.sh (.tup ds))
 | .range lo hi st => if Yk lo hi st then some (.sh (.tup (Wh lo hi st))) else none
 | _ => none
noncomputable def YT : List D → Option T := one I7
theorem JM (hq : G.quiet = true) : OpN G (fun vs => call (.type "tuple") vs []) YT := by
 intro cx sc ok ρ S s vs ds t rel q e Q E out
 obtain ⟨d, rfl, e⟩ := W5 e
 cases d with
 | list ds =>
  obtain ⟨hl, e⟩ := ifs e
  cases e
  obtain ⟨v, rfl, r⟩ := q.one
  obtain ⟨a, o, us, n, rfl, h1, h2, h3, k⟩ := r.list
  have hs := k.length
  rw [Array.length_toList] at hs
  refine call_tuple_list ⟨o, h1, h2, n, h3⟩ (fun h' hk => ?_) (by rw [hs, sizeLine_eq]; exact omB hl)
  have hk' : ∀ b o, s.heap.get? b = some o → (h'.push { cls := .type "tuple", data := .seq us }).get? b = some o := fun b o e => Heap.get?_push_of_some _ (hk b o e)
  obtain ⟨r', x', v'⟩ := rel.keepsE hk'
  exact out _ _ s.toks S r' (.tup (Heap.get?_push_size _ rfl) rfl rfl (k.ext x')) x' fun _ => v'
 | tup ds =>
  cases e
  obtain ⟨v, rfl, r⟩ := q.one
  obtain ⟨a, o, us, n, rfl, h1, h2, h3, k⟩ := r.tup
  exact call_tuple_tup ⟨o, h1, h2, n, h3⟩ (ZS out rel (tk := s.toks) (.tup h1 h2 h3 k))
 | range lo hi st =>
  obtain ⟨hf, e⟩ := ifs e
  cases e
  obtain ⟨f1, f2, f3⟩ := Kz hf
  obtain ⟨v, rfl, r⟩ := q.one
  have r := r.rv fun _ e => by cases e
  cases r with
  | range hr =>
   refine OC (ok.hd hq) hr f1 f2 (by exact Nat.le_trans f3 (Nat.le_add_left _ _)) fun h' tk acc hk hacc => ?_
   have hk' : ∀ b o, s.heap.get? b = some o → (h'.push { cls := .type "tuple", data := .seq acc }).get? b = some o := fun b o e => Heap.get?_push_of_some _ (hk b o e)
   obtain ⟨r', x', v'⟩ := rel.keepsE hk'
   exact out _ _ tk S r' (.tup (Heap.get?_push_size _ rfl) rfl rfl (O7 hacc)) x' fun _ => v'
 | _ => exact nn e
noncomputable def W0 : List D → Option (List Bool)
 | [] => some []
 | d :: ds => (asB d).bind fun b => (W0 ds).map (b :: ·)
noncomputable def LY : D → Option T
 | .list ds => (W0 ds).map fun bs => .sh (.bool (bs.all id))
 | _ => none
noncomputable def Gw : List D → Option T := one LY
theorem GP {S : Addr → Prop} {h : Heap} {vs : List Value} : ∀ {ds : List D} {bs : List Bool}, RVs S h vs ds → W0 ds = some bs → vs.length = bs.length ∧ ∀ (i : Nat) v, vs[i]? = some v → ∃ b, bs[i]? = some b ∧ v = .bool b := by
 induction vs with
 | nil => intro ds bs q e; cases q; cases e; exact ⟨rfl, fun i v hv => by cases hv⟩
 | cons v vs ih =>
  intro ds bs q e
  cases q with
  | cons q r =>
   obtain ⟨b, hb, e1⟩ := Option.bind_eq_some_iff.mp e
   obtain ⟨bs, hbs, rfl⟩ := Option.map_eq_some_iff.mp e1
   have := VG hb
   subst this
   obtain ⟨l, m⟩ := ih r hbs
   cases q
   refine ⟨congrArg (· + 1) l, fun i v hv => ?_⟩
   cases i with
   | zero => cases hv; exact ⟨b, rfl, rfl⟩
   | succ i => exact m i v hv
theorem GR (bs : List Bool) : ((List.range bs.length).all fun i => bs[i]?.getD false) = bs.all id := by
 rw [Bool.eq_iff_iff]
 simp only [List.all_eq_true, List.mem_range]
 constructor
 ·intro h b hb
  obtain ⟨i, hi, rfl⟩ := List.mem_iff_getElem.mp hb
  have := h i hi
  simpa [hi] using this
 ·intro h i hi
  have := h bs[i] (List.getElem_mem hi)
  simpa [hi] using this
theorem Id (hq : G.quiet = true) : OpN G (fun vs => call (.builtin "all") vs []) Gw := by
 intro cx sc ok ρ S s vs ds t rel q e Q E out
 obtain ⟨d, rfl, e⟩ := W5 e
 cases d with
 | list ds =>
  obtain ⟨bs, hb, rfl⟩ := Option.map_eq_some_iff.mp e
  obtain ⟨v, rfl, r⟩ := q.one
  obtain ⟨a, o, us, n, rfl, h1, h2, h3, k⟩ := r.list
  obtain ⟨hlen, hget⟩ := GP k hb
  have il : s.heap.IsList a us := ⟨o, h1, h2, n, h3⟩
  refine call_all_walk (wpAny_pyIter_list il ?_)
  have hne : a ≠ s.heap.objs.size := fun e => by rw [e] at h1; rw [Heap.get?_none_of_le (Nat.le_refl _)] at h1; cases h1
  refine ⟨_, _, _, _, _, _, fun i => bs[i]?.getD false, rfl, Walks.list (A := cx.A.in1) (ok.hd hq) _ a hne us, ⟨⟨_, Heap.get?_push_size _ rfl, rfl, rfl⟩, il.push _⟩, fun i v s' Q' E' hP hQ' => ?_, fun h' tk hk => ?_⟩
  ·obtain ⟨b, hb', rfl⟩ := hget i v (by simpa using hP)
   simp only [hb', Option.getD_some] at hQ'
   exact wpAny_truthy_bool hQ'
  ·have hs : us.size = bs.length := by rw [← hlen]; simp
   rw [hs, GR]
   have hk' : ∀ b o, s.heap.get? b = some o → h'.get? b = some o := fun b o e => hk b o (by simp; rintro rfl; rw [Heap.get?_none_of_le (Nat.le_refl _)] at e; cases e) (Heap.get?_push_of_some _ e)
   obtain ⟨r', x', v'⟩ := rel.keepsE hk'
   exact out _ h' tk S r' (.bool _) x' fun _ => v'
 | _ => exact nn e
end
end Mine
end

section
set_option Elab.async false
set_option maxRecDepth 100000
namespace Mine
open PySem PyProof.Rows
noncomputable def Up : List D → Option (List Int)
 | [] => some []
 | d :: ds => (asI d).bind fun i => (Up ds).map (i :: ·)
theorem Vb {d : D} {ds : List D} {ns : List Int} (e : Up (d :: ds) = some ns) : ∃ i ms, d = .int i ∧ Up ds = some ms ∧ ns = i :: ms := by
 obtain ⟨i, h1, e1⟩ := Option.bind_eq_some_iff.mp e
 obtain ⟨ms, h2, h3⟩ := Option.map_eq_some_iff.mp e1
 exact ⟨i, ms, JD h1, h2, h3.symm⟩
noncomputable def WR (ns : List Int) : List Int := ns.mergeSort (fun a b => decide (a ≤ b))
noncomputable def Ip : D → Option T
 | .list ds => (Up ds).bind fun ns => if ns.length < 64 then some (.ow true (.list ((WR ns).map .int))) else none
 | .tup ds => (Up ds).bind fun ns => if ns.length < 64 then some (.ow true (.list ((WR ns).map .int))) else none
 | _ => none
noncomputable def VF : List D → Option T := one Ip
theorem Bj {S : Addr → Prop} {h : Heap} {vs : List Value} : ∀ {ds : List D} {ns : List Int}, RVs S h vs ds → Up ds = some ns → IntsAre vs ns := by
 induction vs with
 | nil => intro ds ns q e; cases q; cases e; exact .nil
 | cons v vs ih =>
  intro ds ns q e
  cases q with
  | cons q r =>
   obtain ⟨i, ms, rfl, hn, rfl⟩ := Vb e
   cases q
   exact .cons _ _ (ih r hn)
theorem Ep {S : Addr → Prop} {h : Heap} {vs : List Value} {ns : List Int} (q : IntsAre vs ns) : RVs S h vs (ns.map .int) := by
 induction q with
 | nil => exact .nil
 | cons n t _ ih => exact .cons (.int n t) ih
theorem WG {ns ns' : List Int} (p : ns'.Perm ns) (s : ns'.Pairwise (· ≤ ·)) : ns' = WR ns := by
 have hs : (WR ns).Pairwise (· ≤ ·) := by
  have := List.pairwise_mergeSort (le := fun a b : Int => decide (a ≤ b)) (fun a b c h1 h2 => by simp at *; exact Int.le_trans h1 h2) (fun a b => by simp; lia) ns
  exact this.imp fun h => by simpa using h
 exact List.Perm.eq_of_pairwise (fun a b _ _ h1 h2 => by lia) s hs (p.trans (List.mergeSort_perm ns _).symm)
section
variable {prog : Program} {w : World} {A : Around} {E : Value → Shared → Prop} {s : Shared}
theorem VY {l : Addr} {o : Obj} {vs : Array Value} {n : Nat} {T : String} {ns : List Int} {Q : Value → Shared → Prop} (hT : T = "list" ∨ T = "tuple") (ho : s.heap.get? l = some o) (hc : o.cls = .type T) (hd : o.data = .seq vs n) (hI : IntsAre vs.toList ns) (h64 : vs.size < 64)
  (h : ∀ (h' : Heap) (a : Addr) (e : Nat) (out : Array Value) (ns' : List Int), (∀ b o, s.heap.get? b = some o → h'.get? b = some o) → s.heap.get? a = none → h'.get? a = some (seqObj "list" out e) → IntsAre out.toList ns' → ns'.Perm ns → ns'.Pairwise (· ≤ ·) → Q (.ref a) { s with heap := h' }) :
  wpAny (model prog w) A (call (.builtin "sorted") [.ref l]) Q E s := by
 refine Calls.call_function_entry kind_sorted plain_sorted entry_sorted (args_sorted1 _) ?_
 unfold Builtin.«sorted»
 refine wpAny_bind (m := checkCount "sorted" 1 1 _) (wpAny_pure ?_)
 refine wpAny_bind (wpAny_collect_seq l hT ho hc hd (fun h₁ hk₁ => ?_) (by rw [sizeLine_eq]; exact omL h64))
 refine wpAny_bind (wpAny_newList ?_ (by rw [Array.length_toList, sizeLine_eq]; exact omL h64))
 have hoL : (h₁.push (seqObj "list" vs.toList.toArray 0)).get? h₁.objs.size = some (seqObj "list" vs.toList.toArray 0) := Heap.get?_push_size _ rfl
 refine wpAny_bind (wpAny_holding (wpAny_call_entry slot_list_sort ⟨_, hoL, rfl⟩ entry_list_sort (list_sort_tree hoL hI (by simpa using h64) fun out ns' a1 a2 a3 => ⟨_, rfl, ?_⟩) (args_list_sort _)))
 obtain ⟨e, he⟩ := sortedHeap_at (out := out) hoL
 have hn : s.heap.get? h₁.objs.size = none := by
  cases q : s.heap.get? h₁.objs.size with
  | none => rfl
  | some o => have := Heap.lt_size (hk₁ _ _ q); exact absurd this (Nat.lt_irrefl _)
 refine wpAny_pure ⟨_, rfl, h _ _ e out ns' (fun b o eb => ?_) hn he a1 a2 a3⟩
 have hlt := Heap.lt_size (hk₁ b o eb)
 rw [sortedHeap_old (Nat.ne_of_lt hlt) (by rw [size_push']; exact Nat.lt_succ_of_lt hlt)]
 exact Heap.get?_push_of_some _ (hk₁ b o eb)
end
theorem D3 {ds : List D} : ∀ {ns : List Int}, Up ds = some ns → ds.length = ns.length := by
 induction ds with
 | nil => intro ns e; cases e; rfl
 | cons d ds ih =>
  intro ns e
  obtain ⟨i, ms, rfl, hn, rfl⟩ := Vb e
  exact congrArg (· + 1) (ih hn)
set_option tactic.hygienic true in
theorem F2 {G : Gd} : OpN G (fun vs => call (.builtin "sorted") vs []) VF := by
 intro cx sc ok ρ S s vs ds t rel q e Q E out
 obtain ⟨d, rfl, e⟩ := W5 e
 cases d with
 | list ds =>
  obtain ⟨ns, hn, e⟩ := Option.bind_eq_some_iff.mp e
  split at e
  ·rename_i hl
   cases e
   obtain ⟨v, rfl, r⟩ := q.one
   obtain ⟨a, o, us, n, rfl, h1, h2, h3, k⟩ := r.list
   have hs := k.length
   rw [Array.length_toList, D3 hn] at hs
   refine VY (.inl rfl) h1 h2 h3 (Bj k hn) (by exact lt_of_eq_of_lt hs hl) fun h' b e ot ns' hk hb he i1 p1 s1 => ?_
   obtain ⟨r', x', v'⟩ := rel.keepsE hk
   refine out _ h' s.toks S r' (ZU rel (.of_keeps hk) hb he ?_) x' fun _ => v'
   rw [← WG p1 s1]
   exact Ep i1
  ·cases e
 | tup ds =>
  obtain ⟨ns, hn, e⟩ := Option.bind_eq_some_iff.mp e
  split at e
  ·rename_i hl
   cases e
   obtain ⟨v, rfl, r⟩ := q.one
   obtain ⟨a, o, us, n, rfl, h1, h2, h3, k⟩ := r.tup
   have hs := k.length
   rw [Array.length_toList, D3 hn] at hs
   refine VY (.inr rfl) h1 h2 h3 (Bj k hn) (by exact lt_of_eq_of_lt hs hl) fun h' b e ot ns' hk hb he i1 p1 s1 => ?_
   obtain ⟨r', x', v'⟩ := rel.keepsE hk
   refine out _ h' s.toks S r' (ZU rel (.of_keeps hk) hb he ?_) x' fun _ => v'
   rw [← WG p1 s1]
   exact Ep i1
  ·cases e
 | _ => exact nn e
section
variable {G : Gd} {cx : Cx} {sc : Scope} {ρ : AEnv} {S : Addr → Prop} {h h' : Heap}
theorem RV.but {S : Addr → Prop} {h h' : Heap} {a : Addr} {o : Obj} (e : h.get? a = some o) (ho : ¬ Imm o) (hs : ¬ S a) (k : ∀ b o, b ≠ a → h.get? b = some o → h'.get? b = some o) (ha : ∃ o, h'.get? a = some o) : Ext S h S h' :=
 ⟨fun _ q => q, fun b ob eb q => ⟨ob.slots, k b ob (by rintro rfl; rw [e] at eb; cases eb; exact q.elim hs ho) eb, fun _ => rfl⟩, fun b ob eb => by
  by_cases hb : b = a
  ·subst hb; exact ha
  ·exact ⟨ob, k b ob hb eb⟩⟩
theorem Vc {vs : Array Value} {n : Nat} : ¬ Imm { cls := .type "list", data := .seq vs n } := by
 rintro (⟨q, _⟩ | ⟨_, q⟩)
 ·exact absurd q (by simp)
 ·cases q
theorem Rel.turn {i : Nat} {x : Str} {d d' : D} {a : Addr} {o o' : Obj} (r : Rel G cx sc ρ S h) (bh : G.B.StaysIn cx.h₀) (hx : (Qm sc)[i]? = some x) (ht : ρ[i]? = some (some (.ow true d))) (hv : Var cx.env h x (.ref a))
  (e : h.get? a = some o) (hi : ¬ Imm o) (hc : ∀ v, o.data ≠ .cell v) (hl : cx.env.locals ≠ a) (k : Heap.SameBut a h h') (e' : h'.get? a = some o') (hdd : (∃ es n, o.data = .dict es n) → ∃ es n, o'.data = .dict es n) (hk : (∃ ks ds, d' = .dict ks ds) → ∃ ks ds, d = .dict ks ds) (q' : Ext S h S h' → Wx S h' a d') :
  Rel G cx sc (ρ.set i (some (.ow true d'))) S h' ∧ Ext S h S h' ∧ QR cx.env h h' := by
 obtain ⟨w, hw, b, rfl, ns, _, hn⟩ := r.vars i x _ hx ht
 cases Var.inj hv hw
 have hn := hn rfl
 have x' : Ext S h S h' := RV.but e hi ns (fun b o hb eb => (k.2 b hb).trans eb) ⟨_, e'⟩
 have lt : i < ρ.length := (List.getElem?_eq_some_iff.mp ht).1
 have hcell : ∀ y c, cx.env.cells.lookup y = some c → c ≠ a := r.notCell e hc
 have nsame : ∀ m, h.Ns cx.env.locals m → h'.Ns cx.env.locals m := fun m n => n.sameBut k hl
 have csame : ∀ y c, cx.env.cells.lookup y = some c → ∀ w, h.IsCell c w → h'.IsCell c w := fun y c q w n => n.sameBut k (hcell y c q)
 have hb : QR cx.env h h' := fun y w q => by
  rcases q with ⟨a, m₁, b, c⟩ | ⟨a, c, b, d⟩
  ·exact .inl ⟨a, m₁, nsame m₁ b, c⟩
  ·exact .inr ⟨a, c, b, csame y c b _ d⟩
 have hf : ∀ y w, Var cx.env h' y w → Var cx.env h y w := fun y w q => by
  rcases q with ⟨a, m₁, b, c⟩ | ⟨a, c, b, d⟩
  ·obtain ⟨m₀, n₀⟩ := r.ns
   exact .inl ⟨a, m₀, n₀, by rw [(nsame m₀ n₀).agree b y]; exact c⟩
  ·obtain ⟨w₀, n₀⟩ := r.cells y c b
   exact .inr ⟨a, c, b, by rw [IsCell.inj d (csame y c b _ n₀)]; exact n₀⟩
 have pick : ∀ (j : Nat) (u : T), (ρ.set i (some (T.ow true d')))[j]? = some (some u) → (j = i ∧ u = .ow true d') ∨ (j ≠ i ∧ ρ[j]? = some (some u)) := fun j u hj => by
  by_cases hji : j = i
  ·subst hji
   rw [List.getElem?_set_self lt] at hj; cases hj
   exact .inl ⟨rfl, rfl⟩
  ·rw [List.getElem?_set_ne (Ne.symm hji)] at hj
   exact .inr ⟨hji, hj⟩
 have old : ∀ (j : Nat) (m : Bool) (d₁ : D), (ρ.set i (some (T.ow true d')))[j]? = some (some (.ow m d₁)) → ∃ d₂, ρ[j]? = some (some (.ow m d₂)) ∧ ((∃ ks ds, d₁ = .dict ks ds) → ∃ ks ds, d₂ = .dict ks ds) := fun j m d₁ hj => by
  rcases pick j _ hj with ⟨rfl, q⟩ | ⟨_, q⟩
  ·cases q; exact ⟨_, ht, hk⟩
  ·exact ⟨d₁, q, id⟩
 refine ⟨⟨fun b o q => (k.2 b (by rintro rfl; rw [bh _ _ q] at hn; cases hn)).trans (r.base b o q), fun b o q => ?_, fun env he => ?_, let ⟨m, n⟩ := r.ns; ⟨m, nsame m n⟩, fun y c q => let ⟨w, n⟩ := r.cells y c q; ⟨w, csame y c q w n⟩, fun b q => let ⟨o, eo⟩ := r.sdom b q; x'.dom b o eo, r.sok, r.sloc, r.scell, fun y b hdy q => let ⟨o, eo⟩ := r.live y b hdy (hf y _ q); x'.dom b o eo, fun j y m d hy hj => ?_, fun v q => let ⟨C, e⟩ := r.hok v q; ⟨C, e.ext x'⟩, fun j y u hy hu => ?_, fun j l y z m m' d d' u hy hz hj hl a b => ?_, fun j y m ks ds hy hj hvy => ?_⟩, x', hb⟩
 ·obtain ⟨sl, q₁, k₁⟩ := r.keep b o q
  exact ⟨sl, (k.2 b (by rintro rfl; rw [q] at hn; cases hn)).trans q₁, k₁⟩
 ·obtain ⟨p, L, o₁, b, c, d, es, n, q⟩ := r.ff env he
  by_cases hLa : L = a
  ·subst hLa
   rw [e] at d; cases d
   obtain ⟨es', n', q₂⟩ := hdd ⟨es, n, q⟩
   exact ⟨p, L, _, b, c, e', es', n', q₂⟩
  ·exact ⟨p, L, o₁, b, c, (k.2 L hLa).trans d, es, n, q⟩
 ·obtain ⟨d', hj', _⟩ := old j m d hj
  exact r.clean j y m d' hy hj'
 ·rcases pick j u hu with ⟨rfl, rfl⟩ | ⟨hji, hu⟩
  ·rw [hx] at hy; cases hy
   exact ⟨_, hb _ _ hv, a, rfl, ns, q' x', fun _ => hn⟩
  ·obtain ⟨w, hw', tw⟩ := r.vars j y u hy hu
   refine ⟨w, hb y w hw', ?_⟩
   cases u with
   | sh d => exact RV.ext x' tw
   | ow m d =>
    obtain ⟨b, rfl, n1, ow, n2⟩ := tw
    refine ⟨b, rfl, n1, ow.ext x' fun o eo => ⟨o.slots, (k.2 b ?_).trans eo, fun _ => rfl⟩, n2⟩
    rintro rfl
    exact hji (r.inj j i y x m true d _ _ hy hx hu ht hw' hv)
 ·obtain ⟨d₁, h1, _⟩ := old j m d hj
  obtain ⟨d₂, h2, _⟩ := old l m' d' hl
  exact r.inj j l y z m m' d₁ d₂ u hy hz h1 h2 (hf y _ a) (hf z _ b)
 ·obtain ⟨d₁, h1, h2⟩ := old j m _ hj
  obtain ⟨ks', ds', rfl⟩ := h2 ⟨_, _, rfl⟩
  exact r.dok j y m ks' ds' hy h1 (hf y _ hvy)
theorem Rel.mutate {i : Nat} {x : Str} {ds ds' : List D} {a : Addr} {vs' : Array Value} {n' : Nat} (r : Rel G cx sc ρ S h) (bh : G.B.StaysIn cx.h₀) (hx : (Qm sc)[i]? = some x) (ht : ρ[i]? = some (some (.ow true (.list ds)))) (hv : Var cx.env h x (.ref a))
  (k : Heap.SameBut a h h') (e' : h'.get? a = some { cls := .type "list", data := .seq vs' n' }) (q' : RVs S h vs'.toList ds') :
  Rel G cx sc (ρ.set i (some (.ow true (.list ds')))) S h' ∧ Ext S h S h' ∧ QR cx.env h h' := by
 obtain ⟨w, hw, b, rfl, ns, ⟨vs, n, e, q⟩, hn⟩ := r.vars i x _ hx ht
 cases Var.inj hv hw
 have hl : cx.env.locals ≠ a := by
  rintro rfl
  obtain ⟨m', o', es, ep, e', hd', _⟩ := r.ns
  rw [e] at e'; cases e'; cases hd'
 exact r.turn bh hx ht hv e Vc (by intro v q; cases q) hl k e' (by rintro ⟨_, _, q⟩; cases q) (by rintro ⟨_, _, q⟩; cases q) fun x' => ⟨vs', n', e', q'.ext x'⟩
end
noncomputable def XK (ρ : AEnv) (i : Nat) : Option (List D) := match ρ[i]? with
 | some (some (.ow true (.list ds))) => if ds.length ≤ 1000000 then some ds else none
 | _ => none
set_option tactic.hygienic true in
theorem ZP {ρ : AEnv} {i : Nat} {ds : List D} (h : XK ρ i = some ds) : ρ[i]? = some (some (.ow true (.list ds))) ∧ ds.length ≤ 1000000 := by
 unfold XK at h
 split at h
 ·rename_i ds' e
  split at h
  ·cases h; exact ⟨e, by assumption⟩
  ·cases h
 ·cases h
inductive OwnL (cx : Cx) (S : Addr → Prop) (h : Heap) (x : Str) (ds : List D) : Prop
 | mk (a : Addr) (vs : Array Value) (n : Nat) (hv : Var cx.env h x (.ref a)) (e : h.get? a = some { cls := .type "list", data := .seq vs n }) (q : RVs S h vs.toList ds) (hs : vs.size = ds.length) : OwnL cx S h x ds
theorem Rel.own {G : Gd} {cx : Cx} {sc : Scope} {ρ : AEnv} {S : Addr → Prop} {h : Heap} {i : Nat} {x : Str} {ds : List D} (r : Rel G cx sc ρ S h) (hx : (Qm sc)[i]? = some x) (ht : ρ[i]? = some (some (.ow true (.list ds)))) :
  OwnL cx S h x ds := by
 obtain ⟨w, hw, a, rfl, _, ⟨vs, n, e, q⟩, _⟩ := r.vars i x _ hx ht
 exact ⟨a, vs, n, hw, e, q, by rw [← q.length]; simp⟩
theorem YV {h : Heap} {a : Addr} {vs : Array Value} {n : Nat} (f : Array Value → Array Value) (e : h.get? a = some { cls := .type "list", data := .seq vs n }) : ∃ n', (h.update a (Obj.mapSeq f)).get? a = some { cls := .type "list", data := .seq (f vs) n' } := by
 have := Heap.get?_update_self (Obj.mapSeq f) e (by rfl)
 exact ⟨_, this⟩
noncomputable def Za (i : Nat) (f : AEnv → Res T) : AEnv → Res T := fun ρ => ob (XK ρ i) fun _ => (f ρ).bind fun t ρ₁ => ob (XK ρ₁ i) fun ds => .ok (.sh .none) (ρ₁.set i (some (.ow true (.list (ds ++ [t.val])))))
noncomputable def GO (i : Nat) (f : AEnv → Res Bv) : AEnv → Res T := fun ρ => ob (XK ρ i) fun _ => (f ρ).bind fun t ρ₁ => ob ((t.get ρ₁).bind asI) fun j => ob (XK ρ₁ i) fun ds => if 0 ≤ j ∧ j < ds.length then ob ds[j.toNat]? fun d => .ok (.sh d) (ρ₁.set i (some (.ow true (.list (ds.eraseIdx j.toNat))))) else .stuck
noncomputable def YH (G : Gd) (k : Nat) (sc : Scope) (e : Expr) (f : AEnv → Res T) : Prop :=
 ∀ cx, CxOk G cx sc k → FnOk G cx → ∀ ρ S s, Rel G cx sc ρ S s.heap → QD G cx sc true (eval e cx.env) S s (fun S' h' v t => Ul cx S' h' v t) (f ρ)
theorem YH.of {G : Gd} {k : Nat} {sc : Scope} {e : Expr} {f : AEnv → Res T} (h : Sim G k sc e f) : YH G k sc e f := fun cx ok _ => h cx ok
section
variable {G : Gd} {k : Nat} {sc : Scope}
theorem E2 {x : Str} {p apos pos : Pos} {e : Expr} {i : Nat} {f : AEnv → Res T} (he : YH G k sc e f) (hx : (Qm sc)[i]? = some x) (hd : (x == ("__debug__" : Str)) = false) (hn : (x == ("__classdict__" : Str)) = false)
  (hu : ∀ env, backTo pos (starEach [e] env) = [(false, eval e env)]) (hline : (apos.endLine == pos.line) = true) : YH G k sc (.Call (.Attribute (.Name x p) "append" apos) [e] [] pos) (Za i f) := by
 intro cx ok fn ρ S s r Q E out
 obtain ⟨ds₀, h0, out⟩ := out.ob
 obtain ⟨t0, l0⟩ := ZP h0
 obtain ⟨a, vs, n, hv, ho, q, hsz⟩ := r.own hx t0
 refine wpAny_Call_method rfl (by rw [hu]; rfl) hline F.plainAttrs_list F.slot_list_append F.type_list_append ?_
 refine wpAny_Name (Ze (ok.mono (Nat.zero_le _)) hv hn rfl ?_) hd
 refine ⟨⟨_, ho, rfl⟩, fun b eb => (by cases eb; exact ⟨_, ho, rfl⟩), ?_⟩
 rw [hu]
 refine PySem.P.append_list ((he cx ok fn ρ S s r).shared _ _ (out.step0S fun t ρ₁ out v h₁ t₁ S₁ r₁ j₁ x₁ v₁ => ?_))
 obtain ⟨ds, h1, out⟩ := out.ob
 obtain ⟨e1, l1⟩ := ZP h1
 obtain ⟨a', vs', n', hv', ho', q', hsz'⟩ := r₁.own hx e1
 cases Var.inj hv' (v₁ rfl x _ hv)
 refine ⟨vs', n', by rw [hsz', sizeLine_eq]; exact Nat.le_trans l1 (by decide), ho', ?_⟩
 obtain ⟨m', hm'⟩ := YV (fun xs => xs.push v) ho'
 obtain ⟨r₂, x₂, v₂⟩ := r₁.mutate fn.bh hx e1 hv' (Heap.SameBut.update ..) hm' (ds' := ds ++ [t.val]) (by rw [Array.toList_push]; exact RVs.append (.cons j₁ .nil) q')
 exact out _ _ t₁ S₁ r₂ .none (x₁.trans x₂) fun z => (v₁ z).trans v₂
theorem Ix {x : Str} {p apos pos : Pos} {e : Expr} {i : Nat} {f : AEnv → Res Bv} (he : Qh G k sc e f) (hx : (Qm sc)[i]? = some x) (hd : (x == ("__debug__" : Str)) = false) (hn : (x == ("__classdict__" : Str)) = false)
  (hu : ∀ env, backTo pos (starEach [e] env) = [(false, eval e env)]) (hline : (apos.endLine == pos.line) = true) : YH G k sc (.Call (.Attribute (.Name x p) "pop" apos) [e] [] pos) (GO i f) := by
 intro cx ok fn ρ S s r Q E out
 obtain ⟨ds₀, h0, out⟩ := out.ob
 obtain ⟨t0, l0⟩ := ZP h0
 obtain ⟨a, vs, n, hv, ho, q, hsz⟩ := r.own hx t0
 refine wpAny_Call_method rfl (by rw [hu]; rfl) hline F.plainAttrs_list F.slot_list_pop F.type_list_pop ?_
 refine wpAny_Name (Ze (ok.mono (Nat.zero_le _)) hv hn rfl ?_) hd
 refine ⟨⟨_, ho, rfl⟩, fun b eb => (by cases eb; exact ⟨_, ho, rfl⟩), ?_⟩
 rw [hu]
 refine PySem.P.pop_at_list (he cx ok ρ S s r _ _ (out.step0 fun t ρ₁ out v h₁ t₁ S₁ r₁ j₁ x₁ v₁ => ?_))
 obtain ⟨j, hj, out⟩ := out.ob
 obtain ⟨ds, h1, out⟩ := out.ob
 obtain ⟨hb, out⟩ := out.when
 obtain ⟨d, hd, out⟩ := out.ob
 obtain ⟨u, rfl⟩ := (Z5.rb j₁ r₁ (Lg hj)).int
 obtain ⟨e1, l1⟩ := ZP h1
 obtain ⟨a', vs', n', hv', ho', q', hsz'⟩ := r₁.own hx e1
 cases Var.inj hv' (v₁ rfl x _ hv)
 obtain ⟨y, hy, ry⟩ := q'.get hd
 refine ⟨vs', n', j, u, j.toNat, y, by rw [hsz', sizeLine_eq]; exact Nat.le_trans l1 (by decide), rfl, ho', by unfold Builtin.List.listFitsIndex; simp; lia, Oc hb.1 (by lia), by simpa using hy, ?_⟩
 obtain ⟨m', hm'⟩ := YV (fun xs => xs.eraseIdxIfInBounds j.toNat) ho'
 have hj' : j.toNat < vs'.size := by lia
 obtain ⟨r₂, x₂, v₂⟩ := r₁.mutate fn.bh hx e1 hv' (Heap.SameBut.update ..) hm' (ds' := ds.eraseIdx j.toNat) (by
  rw [Array.eraseIdxIfInBounds, dif_pos hj', Array.toList_eraseIdx]; exact q'.eraseIdx _)
 exact out _ _ t₁ S₁ r₂ (ry.ext x₂) (x₁.trans x₂) fun z => (v₁ z).trans v₂
theorem ET {e : Expr} {pos : Pos} {f : AEnv → Res T} (h : YH G k sc e f) (hs : ∀ env : Env, swapsWith e none pos.line env = pure false) : Jk G k sc (.Expr e pos) (XF (Qc f)) := by
 intro cx ok fn ρ S s r Q E out
 refine wpAny_Expr_any ?_ (by unfold interactive; rw [ok.hsc, ok.hk]; rfl) (hs cx.env)
 refine h cx ok fn ρ S s r _ _ ?_
 unfold XF Qc at out
 cases hf : f ρ with
 | stuck => rw [hf] at out; exact out
 | exc C ρ' => rw [hf] at out; exact out
 | ok t ρ' => rw [hf] at out; intro v h' tk S' rel j x vs; exact out .next h' tk S' rel trivial x fun q => by cases q
theorem C2 {x : Str} {p pos : Pos} {value : Expr} {i : Nat} {f : AEnv → Res T} (h : YH G k sc value f) (hx : (Qm sc)[i]? = some x) (hk : sc.names.lookup x = some .local ∨ sc.names.lookup x = some .cell)
  (hcl : Zr x = false) (hs : ∀ env : Env, env.scope = sc → swapsWith value (some (.Name x p)) pos.line env = pure false) : Jk G k sc (.Assign [.Name x p] value pos) (Qx i f) := by
 intro cx ok fn ρ S s r
 rw [exec_Assign_Name _ _ _ _ _ (hs cx.env ok.hsc)]
 refine QD.standAt (QD.bind (h cx ok fn ρ S s r).loose fun t ρ₁ v h₁ t₁ S₁ _ r₁ j x₁ v₁ => ?_)
 refine QD.standAt ?_
 intro Q E out
 refine wpAny_bind (UU (s := { s with heap := h₁, toks := t₁ }) (ok.mono (Nat.zero_le _)) fn r₁ hx hk (.inl hcl) j.st _ _ ?_)
 intro _ h₂ t₂ S₂ r₂ _ x₂ v₂
 exact wpAny_pure (out .next h₂ t₂ S₂ r₂ trivial x₂ v₂)
theorem Cc {prog : Program} {w : World} {A : Around} {E : Value → Shared → Prop} {s : Shared} {l : Addr} {o : Obj} {items : Array Value} {n : Nat} {i : Int} {t : Tok} {v : Value} {Q : Unit → Shared → Prop} (ho : s.heap.get? l = some o) (hc : o.cls = .type "list") (hd : o.data = .seq items n)
  (h0 : 0 ≤ i) (hfit : i < 2 ^ 63) (hn : i < items.size) (hQ : Q () { s with heap := s.heap.update l (Obj.mapSeq (·.setIfInBounds i.toNat v)) }) : wpAny (model prog w) A (setItem (.ref l) (.int i t) v) Q E s := by
 have hT : s.TypeIs (.ref l) "list" := ⟨o, ho, hc⟩
 unfold setItem
 try with_reducible refine wpAny_holding ?_
 first | refine wpAny_bind (wpAny_pure ?_) | skip
 refine wpAny_bind (wpAny_sequenceKey hT (by decide) ?_)
 refine wpAny_bind (wpAny_callSpecial?_slot (name := Str.ofString "__setitem__") hT slot_list_setitem
  (wpAny_call_entry slot_list_setitem hT entry_list_setitem ?_ (args_list_setitem _ _ _)))
 show wpAny _ _ (Builtin.List.listSubscript? (.int i t) >>= _) _ _ s
 refine wpAny_bind (wpAny_listSubscript_int (fitsIndex_of h0 hfit) ?_)
 clear hfit
 obtain ⟨j, rfl⟩ := Int.eq_ofNat_of_zero_le h0
 have hj : j < items.size := by (simpa using hn)
 have hx' : items[j]? = some items[j] := Array.getElem?_eq_getElem hj
 show wpAny _ _ ((seqItemAt l j >>= fun r => pure (r.map (j, ·))) >>= _) _ _ s
 refine wpAny_bind (wpAny_bind (wpAny_seqItemAt ho hd (wpAny_pure ?_)))
 rw [hx']
 show wpAny _ _ (setSeqItemAt l j v >>= _) _ _ s
 refine wpAny_bind (wpAny_setSeqItemAt ho hd ?_)
 first
  | exact wpAny_bind (wpAny_pure (wpAny_pure ⟨.none, rfl, wpAny_pure hQ⟩))
  | exact wpAny_pure ⟨.none, rfl, wpAny_pure hQ⟩
noncomputable def Jd (i : Nat) (f : AEnv → Res Bv) (g : AEnv → Res T) : AEnv → Res Fl := fun ρ => (g ρ).bind fun t ρ₁ => ob (XK ρ₁ i) fun _ => (f ρ₁).bind fun b ρ₂ => ob ((b.get ρ₂).bind asI) fun j => ob (XK ρ₂ i) fun ds => if 0 ≤ j ∧ j < ds.length then .ok .next (ρ₂.set i (some (.ow true (.list (ds.set j.toNat t.val))))) else .stuck
theorem C4 {x : Str} {p ip pos : Pos} {ix value : Expr} {i : Nat} {f : AEnv → Res Bv} {g : AEnv → Res T} (hf : Qh G k sc ix f) (hg : Sim G k sc value g) (hx : (Qm sc)[i]? = some x) (hd : (x == ("__debug__" : Str)) = false) (hn : (x == ("__classdict__" : Str)) = false)
  (hs : ∀ env : Env, env.scope = sc → swapsWithSole [.Subscript (.Name x p) ix ip] value pos.line env = pure false) (hw : ∀ env : Env, swappedStores [.Subscript (.Name x p) ix ip] value env = pure none) :
  Jk G k sc (.Assign [.Subscript (.Name x p) ix ip] value pos) (Jd i f g) := by
 intro cx ok fn ρ S s r Q E out
 rw [exec_Assign]
 refine wpAny_bind (wpAny_standAt ?_)
 rw [hs cx.env ok.hsc]
 refine wpAny_bind (wpAny_pure ?_)
 rw [if_neg (by decide)]
 refine wpAny_bind ((hg cx ok ρ S s r).shared _ _ ?_)
 refine out.step0S fun t ρ₁ out v h₁ t₁ S₁ r₁ j₁ x₁ v₁ => ?_
 rw [hw]
 refine wpAny_bind (wpAny_pure ?_)
 show wpAny _ _ (do assignAll v [assign (.Subscript (.Name x p) ix ip) cx.env]; pure .next) Q E _
 refine wpAny_bind ?_
 show wpAny _ _ (assign (.Subscript (.Name x p) ix ip) cx.env v) _ E _
 rw [arm_assign_Subscript]
 obtain ⟨ds₀, h0, out⟩ := out.ob
 obtain ⟨t0, l0⟩ := ZP h0
 obtain ⟨a, vs, n, hv, ho, q, hsz⟩ := r₁.own hx t0
 refine wpAny_bind (wpAny_holding (wpAny_Name (Ze (ok.mono (Nat.zero_le _)) hv hn rfl ?_) hd))
 refine wpAny_bind (wpAny_holding (hf cx ok ρ₁ S₁ { s with heap := h₁, toks := t₁ } r₁ _ _ (out.step x₁ fun b ρ₂ out iv h₂ t₂ S₂ r₂ j₂ x₂ v₂ => ?_)))
 refine wpAny_bind (wpAny_standAt ?_)
 obtain ⟨j, hj, out⟩ := out.ob
 obtain ⟨ds, h1, out⟩ := out.ob
 obtain ⟨hb, out⟩ := out.when
 obtain ⟨u, rfl⟩ := (Z5.rb j₂ r₂ (Lg hj)).int
 obtain ⟨e1, l1⟩ := ZP h1
 obtain ⟨a', vs', n', hv', ho', q', hsz'⟩ := r₂.own hx e1
 cases Var.inj hv' (v₂ rfl x _ hv)
 refine wpAny_bind (wpAny_holding (Cc ho' rfl rfl hb.1 (by lia) (by lia) ?_))
 obtain ⟨m', hm'⟩ := YV (fun xs => xs.setIfInBounds j.toNat v) ho'
 obtain ⟨r₃, x₃, v₃⟩ := r₂.mutate fn.bh hx e1 hv' (Heap.SameBut.update ..) hm' (ds' := ds.set j.toNat t.val) (by
  rw [Array.toList_setIfInBounds]; exact q'.set (j₁.ext x₂) _)
 exact wpAny_release (wpAny_pure (out .next _ t₂ S₂ r₃ trivial ((x₁.trans x₂).trans x₃) fun z => by cases z))
end
end Mine
end

section
set_option Elab.async false
set_option maxRecDepth 100000
namespace Mine
open PySem PyProof.Rows
theorem B4 : entryFor table "proto.unchain" = some Builtin.«proto.unchain» := entryFor_of_tree (by kernel_rfl)
noncomputable def HOk (A : Around) (h : Heap) : Prop := ∀ v, A.handled = some v → ∃ a o vs, v = .ref a ∧ h.get? a = some o ∧ o.data = .fields vs ∧ vs[2]? = some .none
theorem HOk.keeps {A : Around} {h h' : Heap} (q : HOk A h) (k : ∀ b o vs, h.get? b = some o → o.data = .fields vs → vs[2]? = some .none → ∃ o' vs', h'.get? b = some o' ∧ o'.data = .fields vs' ∧ vs'[2]? = some .none) : HOk A h' := fun v e => by
 obtain ⟨a, o, vs, rfl, h1, h2, h3⟩ := q v e
 obtain ⟨o', vs', k1, k2, k3⟩ := k a o vs h1 h2 h3
 exact ⟨a, o', vs', rfl, k1, k2, k3⟩
theorem Rel.hOk {G : Gd} {cx : Cx} {sc : Scope} {ρ : AEnv} {S : Addr → Prop} {h : Heap} (r : Rel G cx sc ρ S h) : HOk cx.A h := fun v e => by
 obtain ⟨C, q⟩ := r.hok v e
 cases q with
 | exc h1 h2 h3 h4 h5 => exact ⟨_, _, _, rfl, h1, h4, h5⟩
section
variable {prog : Program} {w : World} {A : Around} {E : Value → Shared → Prop} {s : Shared}
theorem CW {α : Type} {Q : α → Shared → Prop} (hh : HOk A s.heap)
  (hE : ∀ h' e, (∀ b o, s.heap.get? b = some o → h'.get? b = some o) → (∃ o, h'.get? e = some o ∧ o.cls = .type "StopIteration") → E (.ref e) { s with heap := h' }) :
  wpAny (model prog w) A (newExc (.type "StopIteration") [] >>= fun e => (raiseNew e : Sem α)) Q E s := by
 refine wpAny_bind ?_
 simp only [newExc, newTuple]
 refine wpAny_bind (wpAny_newObj_type ?_ (by size_fits))
 refine wpAny_bind (m := firstArgMember _ _) (wpAny_of_eq (a := Value.none) (by first | rfl | (simp only [firstArgMember]; rfl)) ?_)
 refine wpAny_newObj_type ?_ (by size_fits)
 simp only [raiseNew]
 refine wpAny_bind (wpAny_handled ?_)
 generalize ho1 : ({ cls := Value.type "tuple", data := Data.seq ([] : List Value).toArray } : Obj) = o1
 generalize ho2 : ({ cls := Value.type "StopIteration", data := _ } : Obj) = o2
 have keep : ∀ b o, s.heap.get? b = some o → ((s.heap.push o1).push o2).get? b = some o := fun b o e => Heap.get?_push_of_some _ (Heap.get?_push_of_some _ e)
 have hnew : ((s.heap.push o1).push o2).get? (s.heap.push o1).objs.size = some o2 := Heap.get?_push_size _ (by subst ho2; rfl)
 have hcls : o2.cls = .type "StopIteration" := by subst ho2; rfl
 cases hA : A.handled with
 | none => exact wpAny_bind (wpAny_pure (wpAny_throw (hE _ _ keep ⟨_, hnew, hcls⟩)))
 | some v =>
  obtain ⟨a, o, vs, rfl, h1, h2, h3⟩ := hh v hA
  have hne : (Value.ref a != Value.ref (s.heap.push o1).objs.size) = true := by
   have := Heap.lt_size h1
   rw [bne_iff_ne]
   intro q
   rw [Value.ref.injEq, Heap.size_push] at q
   exact absurd this (by rw [q]; exact Nat.not_lt.mpr (Nat.le_succ _))
  simp only [hne, if_true]
  have hd2 : ∃ ws, o2.data = .fields ws ∧ 2 < ws.size := by subst ho2; exact ⟨_, rfl, by rw [Array.size_append]; simp; exact Nat.le_add_left _ _⟩
  obtain ⟨ws, hws, hsz⟩ := hd2
  refine wpAny_bind (wpAny_holding (wpAny_runValue (codeAny_builtin B4 ?_)))
  show wpAny _ _ (do
   let context ← field (.ref a) 2
   if context == .none then return ← ret .none
   if context == .ref (s.heap.push o1).objs.size then
    rule "raise.context-cycle-cut"
    setField (.ref a) 2 .none
    return ← ret .none
   if context == .ref a then rule "raise.context-old-cycle"; return ← ret .none
   let slow ← (if false then field (.ref a) 2 else pure (.ref a))
   again (.builtin "proto.unchain" ⟨[.ref (s.heap.push o1).objs.size, context, slow, .bool !false], []⟩)) _ _ _
  refine wpAny_bind (wpAny_field (keep a o h1) h2 h3 ?_)
  rw [if_pos (by rfl)]
  refine wpAny_bind (wpAny_pure (wpAny_pure ?_))
  refine wpAny_bind ?_
  show wpAny _ _ (setField (.ref (s.heap.push o1).objs.size) 2 (.ref a)) _ _ _
  refine wpAny_setField hnew hws hsz (wpAny_throw (hE _ _ (fun b o e => ?_) ⟨_, Heap.get?_update_self _ hnew (Obj.isFreed_of_fields (Obj.data_mapFields hws _)), (Obj.cls_mapFields ..).trans hcls⟩))
  refine (Heap.get?_update_other _ _ ?_).trans (keep b o e)
  have := Heap.lt_size e
  rw [Heap.size_push]
  exact fun q => absurd this (by rw [← q]; exact Nat.not_lt.mpr (Nat.le_succ _))
noncomputable def KB (wr : List Addr) (h h' : Heap) : Prop := (∀ b o, b ∉ wr → h.get? b = some o → h'.get? b = some o) ∧ ∀ b ∈ wr, ∃ o, h'.get? b = some o
theorem UE {it l : Addr} {i : Nat} {o ol : Obj} {items : Array Value} {nl : Nat} {P : Fin → Shared → Prop} (hh : HOk A s.heap) (ho : s.heap.get? it = some o) (hd : o.data = .fields #[.ref l, .int i 0]) (hol : s.heap.get? l = some ol) (hdl : ol.data = .seq items nl) (hx : items[i]? = none) (hni : ∀ v, A.handled = some v → v ≠ .ref it)
  (hE : ∀ h' e, KB [it] s.heap h' → (∃ o, h'.get? e = some o ∧ o.cls = .type "StopIteration") → E (.ref e) { s with heap := h' }) :
  wpAny (model prog w) A (Builtin.«list_iterator.__next__» ⟨[.ref it], []⟩) P E s := by
 show wpAny _ _ (field (.ref it) 0 >>= _) _ _ s
 refine wpAny_bind (wpAny_field ho hd (x := .ref l) rfl ?_)
 show wpAny _ _ (if (Value.ref l == Value.none) = true then _ else _) _ _ s
 rw [if_neg (show ¬ ((Value.ref l == Value.none) = true) from Bool.false_ne_true)]
 show wpAny _ _ (field (.ref it) 1 >>= _) _ _ s
 refine wpAny_bind (wpAny_field ho hd (x := .int i 0) rfl ?_)
 show wpAny _ _ (seqItems? (.ref l) >>= _) _ _ s
 refine wpAny_bind (wpAny_seqItems hol hdl ?_)
 simp only [Int.toNat_natCast, hx]
 refine wpAny_bind (wpAny_rule (wpAny_bind (wpAny_setField ho hd (by simp) ?_)))
 have self := Heap.get?_update_self (Obj.mapFields (·.setIfInBounds 0 Value.none)) ho (Obj.isFreed_of_fields (Obj.data_mapFields hd _))
 have oth : ∀ b o, b ≠ it → s.heap.get? b = some o → (s.heap.update it (Obj.mapFields (·.setIfInBounds 0 Value.none))).get? b = some o := fun b o hb e => (Heap.get?_update_other _ _ (Ne.symm hb)).trans e
 show wpAny _ _ (newExc (.type "StopIteration") [] >>= fun e => raiseNew e) _ _ _
 refine CW (s := { s with heap := s.heap.update it (Obj.mapFields (·.setIfInBounds 0 Value.none)) }) (fun v e => ?_) fun h' e k he => hE h' e ⟨fun b o hb eb => k b o (oth b o (by simpa using hb) eb), fun b hb => by cases List.mem_singleton.mp hb; exact ⟨_, k _ _ self⟩⟩ he
 obtain ⟨a, o', vs, rfl, h1, h2, h3⟩ := hh v e
 exact ⟨a, o', vs, rfl, oth a o' (fun q => hni _ e (by rw [q])) h1, h2, h3⟩
theorem Ow {it l : Addr} {i : Nat} {o ol : Obj} {items : Array Value} {nl : Nat} {Q : Option Value → Shared → Prop} 
  (hh : HOk A s.heap) (ho : s.heap.get? it = some o) (hc : o.cls = .type "list_iterator") (hd : o.data = .fields #[.ref l, .int i 0]) (hol : s.heap.get? l = some ol) (hdl : ol.data = .seq items nl) (hx : items[i]? = none) (hni : ∀ v, A.handled = some v → v ≠ .ref it)
  (hQ : ∀ h', KB [it] s.heap h' → Q none { s with heap := h' }) : wpAny (model prog w) A (pyNext (.ref it)) Q E s := by
 have hT : s.TypeIs (.ref it) "list_iterator" := ⟨o, ho, hc⟩
 unfold pyNext
 refine wpAny_bind (wpAny_attempt (wpAny_callSpecial?_slot (name := Str.ofString "__next__") hT slot_listiter_next (wpAny_call_entry slot_listiter_next hT entry_listiter_next ?_ (args_listiter_next _))))
 refine UE (A := A.in1) hh ho hd hol hdl hx hni fun h' e k he => ?_
 obtain ⟨oe, he, hce⟩ := he
 refine wpAny_bind (wpAny_isInstance (T := "StopIteration") (b := true) ⟨_, he, hce⟩ isSubtype_stop ?_)
 exact wpAny_pure (hQ _ k)
theorem Uv {it l : Addr} {i : Nat} {o ol : Obj} {items : Array Value} {nl : Nat} {P : Fin → Shared → Prop} (hh : HOk A s.heap) (ho : s.heap.get? it = some o) (hd : o.data = .fields #[.ref l, .int i 0]) (hol : s.heap.get? l = some ol) (hdl : ol.data = .seq items nl) (hx : items[i]? = none) (hni : ∀ v, A.handled = some v → v ≠ .ref it)
  (hE : ∀ h' e, KB [it] s.heap h' → (∃ o, h'.get? e = some o ∧ o.cls = .type "StopIteration") → E (.ref e) { s with heap := h' }) :
  wpAny (model prog w) A (Builtin.«tuple_iterator.__next__» ⟨[.ref it], []⟩) P E s := by
 show wpAny _ _ (field (.ref it) 0 >>= _) _ _ s
 refine wpAny_bind (wpAny_field ho hd (x := .ref l) rfl ?_)
 show wpAny _ _ (if (Value.ref l == Value.none) = true then _ else _) _ _ s
 rw [if_neg (show ¬ ((Value.ref l == Value.none) = true) from Bool.false_ne_true)]
 show wpAny _ _ (field (.ref it) 1 >>= _) _ _ s
 refine wpAny_bind (wpAny_field ho hd (x := .int i 0) rfl ?_)
 show wpAny _ _ (seqItems? (.ref l) >>= _) _ _ s
 refine wpAny_bind (wpAny_seqItems hol hdl ?_)
 simp only [Int.toNat_natCast, hx]
 refine wpAny_bind (wpAny_rule (wpAny_bind (wpAny_setField ho hd (by simp) ?_)))
 have self := Heap.get?_update_self (Obj.mapFields (·.setIfInBounds 0 Value.none)) ho (Obj.isFreed_of_fields (Obj.data_mapFields hd _))
 have oth : ∀ b o, b ≠ it → s.heap.get? b = some o → (s.heap.update it (Obj.mapFields (·.setIfInBounds 0 Value.none))).get? b = some o := fun b o hb e => (Heap.get?_update_other _ _ (Ne.symm hb)).trans e
 show wpAny _ _ (newExc (.type "StopIteration") [] >>= fun e => raiseNew e) _ _ _
 refine CW (s := { s with heap := s.heap.update it (Obj.mapFields (·.setIfInBounds 0 Value.none)) }) (fun v e => ?_) fun h' e k he => hE h' e ⟨fun b o hb eb => k b o (oth b o (by simpa using hb) eb), fun b hb => by cases List.mem_singleton.mp hb; exact ⟨_, k _ _ self⟩⟩ he
 obtain ⟨a, o', vs, rfl, h1, h2, h3⟩ := hh v e
 exact ⟨a, o', vs, rfl, oth a o' (fun q => hni _ e (by rw [q])) h1, h2, h3⟩
theorem Ug {it l : Addr} {i : Nat} {o ol : Obj} {items : Array Value} {nl : Nat} {Q : Option Value → Shared → Prop} 
  (hh : HOk A s.heap) (ho : s.heap.get? it = some o) (hc : o.cls = .type "tuple_iterator") (hd : o.data = .fields #[.ref l, .int i 0]) (hol : s.heap.get? l = some ol) (hdl : ol.data = .seq items nl) (hx : items[i]? = none) (hni : ∀ v, A.handled = some v → v ≠ .ref it)
  (hQ : ∀ h', KB [it] s.heap h' → Q none { s with heap := h' }) : wpAny (model prog w) A (pyNext (.ref it)) Q E s := by
 have hT : s.TypeIs (.ref it) "tuple_iterator" := ⟨o, ho, hc⟩
 unfold pyNext
 refine wpAny_bind (wpAny_attempt (wpAny_callSpecial?_slot (name := Str.ofString "__next__") hT slot_tupleiter_next (wpAny_call_entry slot_tupleiter_next hT entry_tupleiter_next ?_ (args_tupleiter_next _))))
 refine Uv (A := A.in1) hh ho hd hol hdl hx hni fun h' e k he => ?_
 obtain ⟨oe, he, hce⟩ := he
 refine wpAny_bind (wpAny_isInstance (T := "StopIteration") (b := true) ⟨_, he, hce⟩ isSubtype_stop ?_)
 exact wpAny_pure (hQ _ k)
theorem Bp {it : Addr} {x left step : Int} {Q : Option Value → Shared → Prop} (hh : HOk A s.heap) (hit : IsRangeIter s.heap it x left step) (hleft : left ≤ 0)
  (hQ : ∀ h', KB [it] s.heap h' → Q none { s with heap := h' }) : wpAny (model prog w) A (pyNext (.ref it)) Q E s := by
 have hT : s.TypeIs (.ref it) "range_iterator" := ⟨_, hit, rfl⟩
 unfold pyNext
 refine wpAny_bind (wpAny_attempt (wpAny_callSpecial?_slot (name := Str.ofString "__next__") hT F.slot_range_iterator_next
  (wpAny_call_entry F.slot_range_iterator_next hT F.entry_range_iterator_next ?_ (F.args_range_iterator_next_1 _))))
 show wpAny _ _ (field (.ref it) 0 >>= _) _ _ s
 refine wpAny_bind (wpAny_field hit rfl (x := rawInt x) rfl ?_)
 show wpAny _ _ (field (.ref it) 1 >>= _) _ _ s
 refine wpAny_bind (wpAny_field hit rfl (x := rawInt left) rfl ?_)
 show wpAny _ _ (field (.ref it) 2 >>= _) _ _ s
 refine wpAny_bind (wpAny_field hit rfl (x := rawInt step) rfl ?_)
 show wpAny _ _ (if left ≤ 0 then _ else _) _ _ s
 rw [if_pos hleft]
 refine wpAny_bind (wpAny_rule ?_)
 refine wpAny_bind ?_
 show wpAny _ _ (newExc (.type "StopIteration") [] >>= fun e => raiseNew e) _ _ _
 refine CW (A := A.in1) hh fun h' e k he => ?_
 obtain ⟨oe, he, hce⟩ := he
 refine wpAny_bind (wpAny_isInstance (T := "StopIteration") (b := true) ⟨_, he, hce⟩ isSubtype_stop ?_)
 exact wpAny_pure (hQ _ ⟨fun b o _ e => k b o e, fun b hb => by cases List.mem_singleton.mp hb; exact ⟨_, k _ _ hit⟩⟩)
end
noncomputable def Ye (o : Obj) : Prop := ∃ T vs, o.cls = .type T ∧ T ≠ "tuple" ∧ T ≠ "list" ∧ T ≠ "range" ∧ o.data = .fields vs
section
variable {G : Gd} {cx : Cx} {sc : Scope} {ρ : AEnv} {S : Addr → Prop} {h h' : Heap} {wr : List Addr}
theorem KB.carry (sh : ∀ b ∈ wr, ∃ o, h.get? b = some o ∧ Ye o) (k : KB wr h h') : Carry S h S h' where
 tup := fun e hc hd => k.1 _ _ (fun m => by obtain ⟨o, e', T, vs, h1, h2, h3, h4, h5⟩ := sh _ m; rw [e] at e'; cases e'; rw [hc] at h1; cases h1; exact h2 rfl) e
 list := fun hs e hc hd => ⟨hs, k.1 _ _ (fun m => by obtain ⟨o, e', T, vs, h1, h2, h3, h4, h5⟩ := sh _ m; rw [e] at e'; cases e'; rw [hc] at h1; cases h1; exact h3 rfl) e⟩
 range := fun e => k.1 _ _ (fun m => by obtain ⟨o, e', T, vs, h1, h2, h3, h4, h5⟩ := sh _ m; unfold IsRange at e; rw [e] at e'; cases e'; cases h1; exact h4 rfl) e
 exc := fun e hc hn hd r => .exc (k.1 _ _ (fun m => by obtain ⟨o, e', T, vs, h1, h2, h3, h4, h5⟩ := sh _ m; rw [e] at e'; cases e'; rw [hc] at h1; cases h1) e) hc hn hd r
 dom := fun a o e' => by
  by_cases hb : a ∈ wr
  ·exact k.2 a hb
  ·exact ⟨o, k.1 a o hb e'⟩
 obj := fun s1 s2 e n => ⟨s1, s2, k.1 _ _ (fun m => by obtain ⟨o, e', T, vs, h1, h2, h3, h4, h5⟩ := sh _ m; rw [e] at e'; cases e'; cases h1) e, by
  obtain ⟨o, es, ep, ho, hd, q⟩ := n
  exact ⟨o, es, ep, k.1 _ _ (fun m => by obtain ⟨o', e', T, vs, _, _, _, _, h5⟩ := sh _ m; rw [ho] at e'; cases e'; rw [hd] at h5; cases h5) ho, hd, q⟩⟩
theorem RV.aside (sh : ∀ b ∈ wr, ∃ o, h.get? b = some o ∧ Ye o) (k : KB wr h h') {v : Value} {d : D} (q : RV S h v d) : RV S h' v d := q.map (k.carry sh)
theorem RVs.aside (sh : ∀ b ∈ wr, ∃ o, h.get? b = some o ∧ Ye o) (k : KB wr h h') {vs : List Value} {ds : List D} (q : RVs S h vs ds) : RVs S h' vs ds := q.map (k.carry sh)
theorem KB.dom (k : KB wr h h') {b : Addr} {o : Obj} (e : h.get? b = some o) : ∃ o', h'.get? b = some o' := by
 by_cases hb : b ∈ wr
 ·exact k.2 b hb
 ·exact ⟨o, k.1 b o hb e⟩
theorem Rel.aside (r : Rel G cx sc ρ S h) (sh : ∀ b ∈ wr, ∃ o, h.get? b = some o ∧ Ye o) (new : ∀ b ∈ wr, cx.h₀.get? b = none ∧ G.B.get? b = none) (k : KB wr h h') : Rel G cx sc ρ S h' ∧ QR cx.env h h' := by
 have nw : ∀ (a : Addr) (o : Obj), h.get? a = some o → (∀ vs, o.data ≠ .fields vs) → a ∉ wr := fun a o e hd m => by
  obtain ⟨o', e', T, vs, _, _, _, _, q⟩ := sh a m
  rw [e] at e'; cases e'; exact hd vs q
 have nsame : ∀ m, h.Ns cx.env.locals m → h'.Ns cx.env.locals m := fun m n => by
  obtain ⟨o, es, ep, ho, hd, q⟩ := n
  exact ⟨o, es, ep, k.1 _ _ (nw _ _ ho (by rw [hd]; intro vs q; cases q)) ho, hd, q⟩
 have csame : ∀ c w, h.IsCell c w → h'.IsCell c w := fun c w n => by
  obtain ⟨o, ho, hd⟩ := n
  exact ⟨o, k.1 _ _ (nw _ _ ho (by rw [hd]; intro vs q; cases q)) ho, hd⟩
 have hb : QR cx.env h h' := fun y w q => by
  rcases q with ⟨a, m₁, b, c⟩ | ⟨a, c, b, d⟩
  ·exact .inl ⟨a, m₁, nsame m₁ b, c⟩
  ·exact .inr ⟨a, c, b, csame c _ d⟩
 have hf : ∀ y w, Var cx.env h' y w → Var cx.env h y w := fun y w q => by
  rcases q with ⟨a, m₁, b, c⟩ | ⟨a, c, b, d⟩
  ·obtain ⟨m₀, n₀⟩ := r.ns
   exact .inl ⟨a, m₀, n₀, by rw [(nsame m₀ n₀).agree b y]; exact c⟩
  ·obtain ⟨w₀, n₀⟩ := r.cells y c b
   exact .inr ⟨a, c, b, by rw [IsCell.inj d (csame c _ n₀)]; exact n₀⟩
 refine ⟨⟨fun b o q => k.1 b o (fun m => by rw [(new b m).2] at q; cases q) (r.base b o q), fun b o q => ?_, fun env he => ?_, let ⟨m, n⟩ := r.ns; ⟨m, nsame m n⟩, fun y c q => let ⟨w, n⟩ := r.cells y c q; ⟨w, csame c w n⟩, fun b q => let ⟨o, eo⟩ := r.sdom b q; k.dom eo, r.sok, r.sloc, r.scell, fun y b hdy q => let ⟨o, eo⟩ := r.live y b hdy (hf y _ q); k.dom eo, r.clean, fun v q => let ⟨C, e⟩ := r.hok v q; ⟨C, e.aside sh k⟩, fun j y u hy hu => ?_, fun j l y z m m' d d' u hy hz hj hl a b => r.inj j l y z m m' d d' u hy hz hj hl (hf y _ a) (hf z _ b), r.dok.back hf⟩, hb⟩
 ·obtain ⟨sl, q₁, k₁⟩ := r.keep b o q
  exact ⟨sl, k.1 b _ (fun m => by rw [(new b m).1] at q; cases q) q₁, k₁⟩
 ·obtain ⟨p, L, o, b, c, d, es, n, q⟩ := r.ff env he
  exact ⟨p, L, o, b, c, k.1 L o (nw _ _ d (by rw [q]; intro vs q; cases q)) d, es, n, q⟩
 ·obtain ⟨w, hw', tw⟩ := r.vars j y u hy hu
  refine ⟨w, hb y w hw', ?_⟩
  cases u with
  | sh d => exact RV.aside sh k tw
  | ow m d =>
   obtain ⟨b, rfl, n1, ow, n2⟩ := tw
   refine ⟨b, rfl, n1, ?_, n2⟩
   exact ow.map (k.carry sh) fun o e hd => ⟨o.slots, k.1 b _ (nw _ _ e (by rcases hd with ⟨_, _, hd⟩ | ⟨_, _, hd⟩ <;> (rw [hd]; intro vs q; cases q))) e, fun _ => rfl⟩
theorem Ext.aside {S₀ : Addr → Prop} {h₀ : Heap} (x : Ext S₀ h₀ S h) (new : ∀ b ∈ wr, h₀.get? b = Option.none) (k : KB wr h h') : Ext S₀ h₀ S h' :=
 ⟨x.sub, fun b o e q => by
  obtain ⟨sl, e₁, k₁⟩ := x.keep b o e q
  exact ⟨sl, k.1 b _ (fun m => by rw [new b m] at e; cases e) e₁, k₁⟩, fun b o e => by
  obtain ⟨o', e'⟩ := x.dom b o e
  exact k.dom e'⟩
end
structure ItK (G : Gd) (A : Around) (tg : Expr) (I : Addr) (wr : List Addr) (St : Nat → (Addr → Prop) → Heap → Prop) (ds : List D) : Prop where
 shape : ∀ i S h, St i S h → ∀ b ∈ wr, ∃ o, h.get? b = some o ∧ Ye o
 ext : ∀ i S h S' h', St i S h → Ext S h S' h' → St i S' h'
 item : ∀ i S (s : Shared) d (Q : Value → Shared → Prop) (E E' : Value → Shared → Prop), ds[i]? = some d → St i S s.heap →
  (∀ v h' tk, RV S h' v d → St (i + 1) S h' → KB wr s.heap h' → Q v { s with heap := h', toks := tk }) →
  wpAny G.M A (pyNext (.ref I)) (fun r s₁ => ∃ v, r = some v ∧ wpAny G.M A (letOwnedTupleGo tg (.ref I) v) (fun _ s₂ => Q v s₂) E' s₁) E s
 done : ∀ S (s : Shared) (Q : Option Value → Shared → Prop) (E : Value → Shared → Prop), St ds.length S s.heap → HOk A s.heap → (∀ v, A.handled = some v → ∀ b ∈ wr, v ≠ .ref b) →
  (∀ h' tk, KB wr s.heap h' → Q none { s with heap := h', toks := tk }) → wpAny G.M A (pyNext (.ref I)) Q E s
 self : ∀ i S (s : Shared) (Q : Value → Shared → Prop) (E : Value → Shared → Prop), St i S s.heap → Q (.ref I) s → wpAny G.M A (pyIter (.ref I)) Q E s
noncomputable def Gu (G : Gd) (cx : Cx) (sc : Scope) (tg : Expr) (S : Addr → Prop) (s : Shared) (Q : Value → Shared → Prop) (E : Value → Shared → Prop) : Res (List D) → Prop
 | .ok ds ρ' => ∀ (I : Addr) (wr : List Addr) (St : Nat → (Addr → Prop) → Heap → Prop) (S' : Addr → Prop) (h' : Heap) (tk : Nat), Rel G cx sc ρ' S' h' → ItK G cx.A tg I wr St ds → St 0 S' h' → (∀ b ∈ wr, s.heap.get? b = none) → Ext S s.heap S' h' → QR cx.env s.heap h' → Q (.ref I) { s with heap := h', toks := tk }
 | .exc C ρ' => ∀ e h' tk S', Rel G cx sc ρ' S' h' → Fly s.heap h' e C → Ext S s.heap S' h' → E (.ref e) { s with heap := h', toks := tk }
 | .stuck => False
noncomputable def BT (G : Gd) (k : Nat) (sc : Scope) (tg e : Expr) (f : AEnv → Res (List D)) : Prop :=
 ∀ cx, CxOk G cx sc k → ∀ ρ S s, Rel G cx sc ρ S s.heap → ∀ Q E, Gu G cx sc tg S s Q E (f ρ) → wpAny G.M cx.A (eval e cx.env) (fun xv s₁ => wpAny G.M cx.A (pyIter xv) Q E s₁) E s
theorem Gu.stepS {G : Gd} {cx : Cx} {sc : Scope} {tg : Expr} {same₁ : Bool} {S S₁ : Addr → Prop} {s : Shared} {h₁ : Heap} {t₁ : Nat} {Q Q₁ : Value → Shared → Prop} {E : Value → Shared → Prop} {r : Res T} {g : T → AEnv → Res (List D)} (out : Gu G cx sc tg S s Q E (r.bind g)) (x : Ext S s.heap S₁ h₁)
  (H : ∀ b ρ, Gu G cx sc tg S s Q E (g b ρ) → ∀ a h' tk S', Rel G cx sc ρ S' h' → RV S' h' a b.val → Ext S₁ h₁ S' h' → (same₁ = true → QR cx.env h₁ h') → Q₁ a { s with heap := h', toks := tk }) :
  Out G cx sc same₁ S₁ { s with heap := h₁, toks := t₁ } (fun S' h' v d => RV S' h' v d) Q₁ E (r.bind fun t ρ => .ok t.val ρ) := by
 cases r with
 | stuck => exact out
 | exc C ρ => exact fun e h' tk S' r' f' x' => out e h' tk S' r' (f'.back x) (x.trans x')
 | ok b ρ => exact H b ρ out
theorem KB.of_sameBut {a : Addr} {h h' : Heap} (k : Heap.SameBut a h h') (e : ∃ o, h'.get? a = some o) : KB [a] h h' := ⟨fun b o hb eb => (k.2 b (by simpa using hb)).trans eb, fun b hb => by rw [List.mem_singleton.mp hb]; exact e⟩
set_option tactic.hygienic true in
theorem KP {prog : Program} {w : World} {A : Around} {E : Value → Shared → Prop} {s : Shared} {tg : Expr} {I : Addr} {o : Obj} {T : String} {vs : Array Value} {v : Value} {Q : Unit → Shared → Prop} (ho : s.heap.get? I = some o) (hc : o.cls = .type T) (hd : o.data = .fields vs)
  (hT : ["enumerate", "zip", "dict_itemiterator", "dict_reverseitemiterator", "odict_iterator", "itertools.zip_longest", "itertools.pairwise"].contains T = false) (h : Q () s) : wpAny (model prog w) A (letOwnedTupleGo tg (.ref I) v) Q E s := by
 obtain ⟨c, d, dt, sl⟩ := o
 cases hc
 cases hd
 have hf : ∀ a, (["enumerate", "zip", "dict_itemiterator", "dict_reverseitemiterator", "odict_iterator", "itertools.zip_longest", "itertools.pairwise"].contains T && vs[0]? == some (rawInt a)) = false := fun a => by rw [hT]; rfl
 cases tg <;> first | exact wpAny_pure h | skip
 all_goals
  cases v <;> first | exact wpAny_pure h | skip
  rename_i a
  refine wpAny_bind (m := load I) (wpAny_load ho ?_)
  show wpAny _ _ (if (["enumerate", "zip", "dict_itemiterator", "dict_reverseitemiterator", "odict_iterator", "itertools.zip_longest", "itertools.pairwise"].contains T && vs[0]? == some (rawInt a)) = true then _ else _) Q E s
  rw [if_neg (by rw [hf]; decide)]
  exact wpAny_pure h
section
variable {G : Gd} {A : Around} {tg : Expr}
noncomputable def Kt (T : String) (It : String) (I l : Addr) (ds : List D) (i : Nat) (S : Addr → Prop) (h : Heap) : Prop :=
 (∃ o, h.get? I = some o ∧ o.cls = .type It ∧ o.data = .fields #[.ref l, .int i 0]) ∧ ∃ o vs n, h.get? l = some o ∧ o.cls = .type T ∧ o.data = .seq vs n ∧ RVs S h vs.toList ds ∧ (T = "list" → S l)
theorem Kt.ext {T It : String} {I l : Addr} {ds : List D} (hT : T = "list" ∨ T = "tuple") : ∀ i S h S' h', Kt T It I l ds i S h → Ext S h S' h' → Kt T It I l ds i S' h' := by
 rintro i S h S' h' ⟨⟨o, a1, a2, a3⟩, ol, vs, n, b1, b2, b3, b4, b5⟩ x
 refine ⟨⟨o, x.exact a1 (.inr (.inr ⟨_, a3⟩)) (.fields a3), a2, a3⟩, ol, vs, n, x.exact b1 ?_ (.seq b3), b2, b3, b4.ext x, fun q => x.sub _ (b5 q)⟩
 rcases hT with rfl | rfl
 ·exact .inl (b5 rfl)
 ·exact .inr (.inl ⟨b2, _, _, b3⟩)
theorem HV {I l : Addr} (hne : l ≠ I) (ds : List D) : ItK G A tg I [I] (Kt "list" "list_iterator" I l ds) ds where
 shape := fun i S h st b hb => by
  obtain ⟨⟨o, a1, a2, a3⟩, _⟩ := st
  exact ⟨o, by rw [List.mem_singleton.mp hb]; exact a1, _, _, a2, by decide, by decide, by decide, a3⟩
 ext := Kt.ext (.inl rfl)
 item := fun i S s d Q E E' hd st hQ => by
  obtain ⟨⟨o, a1, a2, a3⟩, ol, vs, n, b1, b2, b3, b4, b5⟩ := st
  obtain ⟨v, hv, rv⟩ := b4.get hd
  refine wpAny_pyNext_list_item ⟨o, a1, a2, a3⟩ ⟨ol, b1, b2, n, b3⟩ (by simpa using hv) fun h' it' k' => ⟨v, rfl, ?_⟩
  have it0 := it'
  obtain ⟨o', c1, c2, c3⟩ := it0
  have kb := KB.of_sameBut k' ⟨o', c1⟩
  have sh : ∀ b ∈ [I], ∃ o, s.heap.get? b = some o ∧ Ye o := fun b hb => ⟨o, by rw [List.mem_singleton.mp hb]; exact a1, _, _, a2, by decide, by decide, by decide, a3⟩
  exact KP (s := { s with heap := h' }) c1 c2 c3 (by decide) (hQ v h' s.toks (rv.aside sh kb) ⟨⟨o', c1, c2, c3⟩, ol, vs, n, (k'.2 l hne).trans b1, b2, b3, b4.aside sh kb, b5⟩ kb)
 done := fun S s Q E st hh hni hQ => by
  obtain ⟨⟨o, a1, a2, a3⟩, ol, vs, n, b1, b2, b3, b4, b5⟩ := st
  exact Ow hh a1 a2 a3 b1 b3 (by have := b4.length; simp at this; simp [this]) (fun v e => hni v e I (.head _)) fun h' k => hQ h' s.toks k
 self := fun i S s Q E st hQ => by
  obtain ⟨⟨o, a1, a2, a3⟩, _⟩ := st
  exact wpAny_pyIter_listiter ⟨o, a1, a2, a3⟩ hQ
theorem Gc {I l : Addr} (hne : l ≠ I) (ds : List D) : ItK G A tg I [I] (Kt "tuple" "tuple_iterator" I l ds) ds where
 shape := fun i S h st b hb => by
  obtain ⟨⟨o, a1, a2, a3⟩, _⟩ := st
  exact ⟨o, by rw [List.mem_singleton.mp hb]; exact a1, _, _, a2, by decide, by decide, by decide, a3⟩
 ext := Kt.ext (.inr rfl)
 item := fun i S s d Q E E' hd st hQ => by
  obtain ⟨⟨o, a1, a2, a3⟩, ol, vs, n, b1, b2, b3, b4, b5⟩ := st
  obtain ⟨v, hv, rv⟩ := b4.get hd
  refine next_tuple_item ⟨o, a1, a2, a3⟩ ⟨ol, b1, b2, n, b3⟩ (by simpa using hv) fun h' it' k' => ⟨v, rfl, ?_⟩
  have it0 := it'
  obtain ⟨o', c1, c2, c3⟩ := it0
  have kb := KB.of_sameBut k' ⟨o', c1⟩
  have sh : ∀ b ∈ [I], ∃ o, s.heap.get? b = some o ∧ Ye o := fun b hb => ⟨o, by rw [List.mem_singleton.mp hb]; exact a1, _, _, a2, by decide, by decide, by decide, a3⟩
  exact KP (s := { s with heap := h' }) c1 c2 c3 (by decide) (hQ v h' s.toks (rv.aside sh kb) ⟨⟨o', c1, c2, c3⟩, ol, vs, n, (k'.2 l hne).trans b1, b2, b3, b4.aside sh kb, b5⟩ kb)
 done := fun S s Q E st hh hni hQ => by
  obtain ⟨⟨o, a1, a2, a3⟩, ol, vs, n, b1, b2, b3, b4, b5⟩ := st
  exact Ug hh a1 a2 a3 b1 b3 (by have := b4.length; simp at this; simp [this]) (fun v e => hni v e I (.head _)) fun h' k => hQ h' s.toks k
 self := fun i S s Q E st hQ => by
  obtain ⟨⟨o, a1, a2, a3⟩, _⟩ := st
  exact wpAny_pyIter_tupleiter ⟨o, a1, a2, a3⟩ hQ
noncomputable def Di (I : Addr) (lo st : Int) (n : Nat) (i : Nat) (_ : Addr → Prop) (h : Heap) : Prop := IsRangeIter h I (lo + i * st) ((n : Int) - i) st
theorem Gf {I : Addr} (lo st : Int) (n : Nat) : ItK G A tg I [I] (Di I lo st n) ((List.range n).map fun (i : Nat) => D.int (lo + i * st)) where
 shape := fun i S h q b hb => by cases List.mem_singleton.mp hb; exact ⟨_, q, _, _, rfl, by decide, by decide, by decide, rfl⟩
 ext := fun i S h S' h' q x => x.exact q (.inr (.inr ⟨_, rfl⟩)) (.fields rfl)
 item := fun i S s d Q E E' hd q hQ => by
  have hi : i < n := by
   have := (List.getElem?_eq_some_iff.mp hd).1
   simpa using this
  have hdd : d = .int (lo + i * st) := by simp [hi] at hd; exact hd.symm
  subst hdd
  refine wpAny_pyNext_range_item q (by (simpa using hi)) fun h' it' k' => ⟨_, rfl, ?_⟩
  have q' : Di I lo st n (i + 1) S h' := by
   unfold Di
   have e1 : lo + (i : Int) * st + st = lo + ((i + 1 : Nat) : Int) * st := by rw [Int.natCast_add, Int.add_mul]; simp; simp +arith
   have e2 : (n : Int) - i - 1 = (n : Int) - ((i + 1 : Nat) : Int) := by simp +arith
   rw [← e1, ← e2]; exact it'
  exact KP (s := { s with heap := h', toks := s.toks + 1 }) it' rfl rfl (by decide) (hQ _ h' _ (.int _ _) q' (KB.of_sameBut k' ⟨_, it'⟩))
 done := fun S s Q E q hh hni hQ => by
  have q : IsRangeIter s.heap I _ _ _ := q
  exact Bp hh q (by simp) fun h' k => hQ h' s.toks k
 self := fun i S s Q E q hQ => wpAny_pyIter_rangeiter q hQ
end
noncomputable def X0 : D → Option (List D)
 | .list ds => some ds
 | .tup ds => some ds
 | .range lo hi st => if Yk lo hi st then some (Wh lo hi st) else none
 | _ => none
noncomputable def Xu (f : AEnv → Res T) : AEnv → Res (List D) := fun ρ => (f ρ).bind fun t ρ₁ => match X0 t.val with
 | some ds => .ok ds ρ₁
 | none => .stuck
set_option tactic.hygienic true in
theorem Xw {G : Gd} {k : Nat} {sc : Scope} {tg e : Expr} {f : AEnv → Res T} (h : Sim G k sc e f) : BT G k sc tg e (Xu f) := by
 intro cx ok ρ S s r Q E out
 refine (h cx ok ρ S s r).shared _ _ ?_
 refine Gu.stepS (s := s) (tg := tg) out (Ext.refl ..) fun t ρ₁ out v h₁ t₁ S₁ r₁ j₁ x₁ v₁ => ?_
 have nw : ∀ b ∈ [h₁.objs.size], s.heap.get? b = none := fun b hb => by
  rw [List.mem_singleton.mp hb]
  exact x₁.none (Heap.get?_none_of_le (Nat.le_refl _))
 cases hd : X0 t.val with
 | none => rw [hd] at out; exact out.elim
 | some ds =>
  rw [hd] at out
  simp only at out
  unfold X0 at hd
  split at hd
  ·rename_i ds' e
   cases hd
   rw [e] at j₁
   cases j₁ with
   | list hs e1 e2 e3 q =>
    rename_i a o vs n
    refine wpAny_pyIter_list (s := { s with heap := h₁, toks := t₁ }) ⟨o, e1, e2.1, n, e3⟩ ?_
    have hne : a ≠ h₁.objs.size := fun e => by rw [e, Heap.get?_none_of_le (Nat.le_refl _)] at e1; cases e1
    exact out _ [h₁.objs.size] _ S₁ _ t₁ (Rel.push (s := { s with heap := h₁ }) r₁ _) (HV hne ds) ⟨⟨_, Heap.get?_push_size _ rfl, rfl, rfl⟩, o, vs, n, Heap.get?_push_of_some _ e1, e2.1, e3, q.ext (Xr _), fun _ => hs⟩ nw (x₁.trans (Xr _)) ((v₁ rfl).trans (r₁.same (XY _)))
  ·rename_i ds' e
   cases hd
   rw [e] at j₁
   cases j₁ with
   | tup e1 e2 e3 q =>
    rename_i a o vs n
    refine iter_tuple (s := { s with heap := h₁, toks := t₁ }) ⟨o, e1, e2, n, e3⟩ ?_
    have hne : a ≠ h₁.objs.size := fun e => by rw [e, Heap.get?_none_of_le (Nat.le_refl _)] at e1; cases e1
    exact out _ [h₁.objs.size] _ S₁ _ t₁ (Rel.push (s := { s with heap := h₁ }) r₁ _) (Gc hne ds) ⟨⟨_, Heap.get?_push_size _ rfl, rfl, rfl⟩, o, vs, n, Heap.get?_push_of_some _ e1, e2, e3, q.ext (Xr _), fun q => absurd q (by decide)⟩ nw (x₁.trans (Xr _)) ((v₁ rfl).trans (r₁.same (XY _)))
  ·rename_i lo hi st e
   rw [e] at j₁
   split at hd
   ·rename_i hf
    cases hd
    obtain ⟨f1, f2, f3⟩ := Kz hf
    cases j₁ with
    | range hr =>
     refine wpAny_pyIter_range (s := { s with heap := h₁, toks := t₁ }) hr f1 ?_
     refine out _ [h₁.objs.size] _ S₁ _ t₁ (Rel.push (s := { s with heap := h₁ }) r₁ _) (Gf lo st (KK lo hi st)) ?_ nw (x₁.trans (Xr _)) ((v₁ rfl).trans (r₁.same (XY _)))
     show IsRangeIter _ _ _ _ _
     rw [f2]
     simpa using Heap.get?_push_size _ rfl
   ·cases hd
  ·cases hd
end Mine
end

section
set_option Elab.async false
set_option maxRecDepth 100000
namespace Mine
open PySem PyProof.Rows
noncomputable def W2 (cx : Cx) (sc : Scope) (x : Str) : Prop := sc.names.lookup x = some .local ∨ (sc.names.lookup x = some .cell ∧ ∃ c, cx.env.cells.lookup x = some c ∧ cx.h₀.get? c = none)
noncomputable def Vr (G : Gd) (sc : Scope) (tg : Expr) (xs : List Str) (b : D → AEnv → Option AEnv) : Prop :=
 ∀ cx k, CxOk G cx sc k → FnCx G cx → (∀ x ∈ xs, W2 cx sc x) → ∀ ρ S s v d ρ', Rel G cx sc ρ S s.heap → RV S s.heap v d → b d ρ = some ρ' → QD G cx sc false (assign tg cx.env v) S s (fun _ _ _ (_ : Unit) => True) (.ok () ρ')
noncomputable def QF (i : Nat) : D → AEnv → Option AEnv := fun d ρ => some (ρ.set i (some (.sh d)))
theorem Cr {G : Gd} {sc : Scope} {x : Str} {p : Pos} {i : Nat} (hx : (Qm sc)[i]? = some x) : Vr G sc (.Name x p) [x] (QF i) := by
 intro cx k ok fn hn ρ S s v d ρ' r q e
 cases e
 rw [PySem.assign_Name]
 exact QD.standAt ((KO (ok.mono (Nat.zero_le _)) fn r hx (hn x (.head _)) (.inr ⟨d, rfl⟩) (t := .sh d) q).wp fun Q E h => wpAny_bindName h)
noncomputable def Fh : List Nat → List D → AEnv → Option AEnv
 | [], [], ρ => some ρ
 | i :: is, d :: ds, ρ => Fh is ds (ρ.set i (some (.sh d)))
 | _, _, _ => none
noncomputable def ZD (is : List Nat) : D → AEnv → Option AEnv
 | .tup ds, ρ => if ds.length = is.length then Fh is ds ρ else none
 | _, _ => none
inductive Names (sc : Scope) : List Expr → List Str → List Nat → Prop
 | nil : Names sc [] [] []
 | cons {x : Str} {p : Pos} {i : Nat} {es : List Expr} {xs : List Str} {is : List Nat} : (Qm sc)[i]? = some x → Names sc es xs is → Names sc (.Name x p :: es) (x :: xs) (i :: is)
theorem Names.each {sc : Scope} {es : List Expr} {xs : List Str} {is : List Nat} (h : Names sc es xs is) (env : Env) : (assignEach es env).length = is.length ∧ (assignEach es env).findIdx? (·.1) = none := by
 induction h with
 | nil => exact ⟨rfl, rfl⟩
 | cons _ _ ih =>
  obtain ⟨l, f⟩ := ih
  refine ⟨congrArg (· + 1) l, ?_⟩
  show List.findIdx? (·.1) ((false, _) :: assignEach _ env) = none
  rw [List.findIdx?_cons, f]; rfl
theorem Dh {G : Gd} {sc : Scope} {cx : Cx} {k : Nat} (ok : CxOk G cx sc k) (fn : FnCx G cx) {es : List Expr} {xs : List Str} {is : List Nat} (h : Names sc es xs is) : (∀ x ∈ xs, W2 cx sc x) → ∀ {vs : List Value} {ds : List D} {ρ ρ' : AEnv} {S : Addr → Prop} {s : Shared}, Rel G cx sc ρ S s.heap → RVs S s.heap vs ds → Fh is ds ρ = some ρ' →
  QD G cx sc false (assignInOrder ((assignEach es cx.env).map (·.2)) vs) S s (fun _ _ _ (_ : Unit) => True) (.ok () ρ') := by
 induction h with
 | nil =>
  intro _ vs ds ρ ρ' S s r q e
  cases q with
  | nil => cases e; exact QD.pure r trivial
  | cons _ _ => cases e
 | cons hx _ ih =>
  intro hn vs ds ρ ρ' S s r q e
  cases q with
  | nil => cases e
  | cons q1 q2 =>
   intro Q E out
   refine assignInOrder_cons (Cr hx cx k ok fn (fun y hy => by rw [List.mem_singleton.mp hy]; exact hn _ (.head _)) ρ S s _ _ _ r q1 rfl _ _ ?_)
   intro _ h₁ t₁ S₁ r₁ _ x₁ _
   refine ih (fun y hy => hn y (.tail _ hy)) (s := { s with heap := h₁, toks := t₁ }) r₁ (q2.ext x₁) e _ _ ?_
   intro _ h₂ t₂ S₂ r₂ _ x₂ _
   exact out () h₂ t₂ S₂ r₂ trivial (x₁.trans x₂) fun z => by cases z
section
variable {prog : Program} {w : World} {A : Around} {E : Value → Shared → Prop} {s : Shared}
theorem Vv {t : Addr} {items : Array Value} {Q : List Value → Shared → Prop} (hh : HOk A s.heap) (ht : IsTup s.heap t items)
  (hQ : ∀ h', (∀ b o, s.heap.get? b = some o → h'.get? b = some o) → Q items.toList { s with heap := h' }) : wpAny (model prog w) A (unpackItems (.ref t) items.size none) Q E s := by
 have hlt : t ≠ s.heap.objs.size := by obtain ⟨o, ho, _⟩ := ht; exact Nat.ne_of_lt (Heap.lt_size ho)
 unfold unpackItems
 refine wpAny_bind ?_
 ·unfold notIterableAtAll
  refine wpAny_bind (wpAny_specialOf ht.typeIs slot_tuple_iter.lookup ?_)
  refine wpAny_pure ?_
  simp only [Bool.false_eq_true, if_false]
  refine wpAny_bind (wpAny_holding (iter_tuple ht ?_))
  refine wpAny_bind (wpAny_holding (draw_tuple hlt items.size 0 _ _ ⟨_, Heap.get?_push_size _ rfl, rfl, rfl⟩ (ht.push _) (by simp +arith) fun h₁ hit₁ hs₁ => ?_))
  have hall : List.take items.size (List.drop 0 items.toList) = items.toList := by
   rw [List.drop_zero]; exact List.take_of_length_le (by simp)
  rw [hall]
  rw [if_neg (by simp)]
  have ht₁ : IsTup h₁ t items := (ht.push _).extBut hs₁.extBut hlt
  obtain ⟨oi, i1, i2, i3⟩ := hit₁
  obtain ⟨ot, t1, t2, nt, t3⟩ := ht₁
  have keep : ∀ b o, s.heap.get? b = some o → h₁.get? b = some o := fun b o e => hs₁.extBut b o (Nat.ne_of_lt (Heap.lt_size e)) (Heap.get?_push_of_some _ e)
  refine wpAny_bind (wpAny_holding (Ug (s := { s with heap := h₁ }) (hh.keeps fun b o vs e hd h2 => ⟨o, vs, keep b o e, hd, h2⟩) i1 i2 i3 t1 t3 (by simp) (fun v hv => ?_) fun h₂ k₂ => ?_))
  ·obtain ⟨a, o, vs, rfl, h1, _⟩ := hh v hv
   intro q
   cases q
   exact absurd (Heap.lt_size h1) (Nat.lt_irrefl _)
  simp only [Option.isSome_none, Bool.false_eq_true, if_false]
  refine wpAny_pure (hQ h₂ fun b o e => k₂.1 b o (by simp; exact Nat.ne_of_lt (Heap.lt_size e)) (keep b o e))
end
set_option tactic.hygienic true in
theorem BB {G : Gd} {sc : Scope} {es : List Expr} {xs : List Str} {is : List Nat} {n : Nat} {p : Pos} (h : Names sc es xs is) : Vr G sc (.Tuple es n p) xs (ZD is) := by
 intro cx k ok fn hn ρ S s v d ρ' r q e
 unfold ZD at e
 split at e
 ·rename_i ds
  split at e
  ·rename_i hl
   cases q with
   | tup e1 e2 e3 q =>
    rename_i a o vs m
    rw [assign_Tuple]
    refine QD.standAt ?_
    intro Q E out
    unfold unpack
    obtain ⟨l, f⟩ := h.each cx.env
    have hsz : vs.size = ds.length := by rw [← q.length]; simp
    rw [l, f, ← hl, ← hsz]
    refine wpAny_bind (wpAny_holding (Vv r.hOk ⟨o, e1, e2, m, e3⟩ fun h' hk => ?_))
    obtain ⟨r', x', v'⟩ := r.keepsE hk
    refine Dh ok fn h hn (s := { s with heap := h' }) r' (q.ext x') e _ _ ?_
    intro _ h₂ t₂ S₂ r₂ _ x₂ _
    exact out () h₂ t₂ S₂ r₂ trivial (x'.trans x₂) fun z => by cases z
  ·cases e
 ·cases e
noncomputable def Xs (b : D → AEnv → Option AEnv) (body : AEnv → Res Fl) : List D → AEnv → Res Fl
 | [], ρ => .ok .next ρ
 | d :: ds, ρ => match b d ρ with
  | none => .stuck
  | some ρ₁ => (body ρ₁).bind fun fl ρ₂ => match fl with
   | .next => Xs b body ds ρ₂
   | .cont => Xs b body ds ρ₂
   | .brk => .ok .next ρ₂
   | .ret t => .ok (.ret t) ρ₂
noncomputable def YA (src : AEnv → Res (List D)) (b : D → AEnv → Option AEnv) (body : AEnv → Res Fl) : AEnv → Res Fl := fun ρ => (src ρ).bind fun ds ρ₁ => Xs b body ds ρ₁
theorem Oi {α : Type} {l : List α} {i : Nat} {d : α} (h : l[i]? = some d) : l.drop i = d :: l.drop (i + 1) := by
 obtain ⟨h1, rfl⟩ := List.getElem?_eq_some_iff.mp h
 exact List.drop_eq_getElem_cons h1
theorem GX {A : Around} {h : Heap} (hh : HOk A h) {wr : List Addr} (new : ∀ b ∈ wr, h.get? b = none) : ∀ v, A.handled = some v → ∀ b ∈ wr, v ≠ .ref b := fun v hv b hb q => by
 obtain ⟨a, o, vs, rfl, h1, _⟩ := hh v hv
 cases q
 rw [new _ hb] at h1; cases h1
section
variable {G : Gd} {k : Nat} {sc : Scope}
inductive FInv (G : Gd) (cx : Cx) (sc : Scope) (S : Addr → Prop) (St : Nat → (Addr → Prop) → Heap → Prop) (P : Res Fl → Prop) (fo : List D → AEnv → Res Fl) (ds : List D) (s : Shared) : Nat → Shared → Prop
 | mk {i : Nat} {ρ' : AEnv} {S' : Addr → Prop} {h' : Heap} {tk : Nat} : i ≤ ds.length → Rel G cx sc ρ' S' h' → St i S' h' → Ext S s.heap S' h' → P (fo (ds.drop i) ρ') → FInv G cx sc S St P fo ds s (ds.length + 1 - i) { s with heap := h', toks := tk }
set_option tactic.hygienic true in
theorem H2 {tg iter : Expr} {body : List Stmt} {pos : Pos} {src : AEnv → Res (List D)} {xs : List Str} {b : D → AEnv → Option AEnv} {f : AEnv → Res Fl} (hi : BT G k sc tg iter src) (ht : Vr G sc tg xs b) (hxs : ∀ x ∈ xs, sc.names.lookup x = some .local ∨ sc.names.lookup x = some .cell) (hb : UB G k sc body f)
  (hs : ∀ env x, foldedSetIterable iter env x = pure x) : Jk G k sc (.For tg iter body [] pos) (YA src b f) := by
 intro cx ok fn ρ S s r Q E out
 refine wpAny_For ?_ (hs cx.env)
 refine hi cx ok ρ S s r _ _ ?_
 unfold YA at out
 cases hsrc : src ρ with
 | stuck => rw [hsrc] at out; exact out.elim
 | exc C ρ₁ => rw [hsrc] at out; exact out
 | ok ds ρ₁ =>
  rw [hsrc] at out
  simp only [Res.bind] at out
  intro I wr St S₁ h₁ t₁ r₁ it st₁ nw x₁ v₁
  have hn : ∀ x ∈ xs, W2 cx sc x := fun x hx => (hxs x hx).imp id fun q => ⟨q, fn.has x (by unfold Env.kindOf; rw [ok.hsc]; exact q)⟩
  have new : ∀ b ∈ wr, cx.h₀.get? b = none ∧ G.B.get? b = none := fun b hb => ⟨r.keep.none (nw b hb), by
   cases q : G.B.get? b with
   | none => rfl
   | some o => have := r.base b o q; rw [nw b hb] at this; cases this⟩
  have err : ∀ C ρ', Out G cx sc false S s (fun S' h' a b => FlJ cx S' h' a b) Q E (.exc C ρ') → ∀ e h' tk S', Rel G cx sc ρ' S' h' → Fly s.heap h' e C → Ext S s.heap S' h' → notedBy G.M cx.A cx.env (fun e s' => cameBackBy G.M cx.A cx.env E e s') (.ref e) { s with heap := h', toks := tk } := fun C ρ' o e h' tk S' r' f' x' => DC ok r o r' f' x'
  obtain ⟨Inv, hI, hC⟩ : ∃ Inv : Nat → Shared → Prop, (∀ m s', FInv G cx sc S St (Out G cx sc false S s (fun S' h' a b => FlJ cx S' h' a b) Q E) (Xs b f) ds s m s' → Inv m s') ∧ ∀ m s', Inv m s' → FInv G cx sc S St (Out G cx sc false S s (fun S' h' a b => FlJ cx S' h' a b) Q E) (Xs b f) ds s m s' := ⟨_, fun _ _ q => q, fun _ _ q => q⟩
  refine codeAny_forLoop_any Inv ?_ (ds.length + 1) (hI _ _ (.mk (i := 0) (tk := t₁) (Nat.zero_le _) r₁ st₁ x₁ (by rw [List.drop_zero]; exact out)))
  generalize (notedBy G.M cx.A cx.env fun e s' => cameBackBy G.M cx.A cx.env E e s') = EN at err ⊢
  intro m s' hinv
  cases hC m s' hinv with
  | mk hi' r' st' x' out' =>
  rename_i i ρ' S' h' tk
  by_cases hlt : i < ds.length
  ·have hd : ds[i]? = some ds[i] := List.getElem?_eq_getElem hlt
   rw [Oi hd] at out'
   rw [Xs] at out'
   cases hbd : b ds[i] ρ' with
   | none => rw [hbd] at out'; exact out'.elim
   | some ρ₂ =>
    rw [hbd] at out'
    simp only at out'
    refine wpAny_mono (it.item i S' { s with heap := h', toks := tk } ds[i] _ _ EN hd st' fun v h₂ t₂ rv st₂ kb => (?_ : (fun v s₂ => wpAny G.M cx.A (assign tg cx.env v) (fun _ s₂ => wpAny G.M cx.A (execs body cx.env) (fun f s₃ => match f with
      | .next | .cont => ∃ m', m' < ds.length + 1 - i ∧ Inv m' s₃
      | .brk => Q .next s₃
      | .ret v => Q (.ret v) s₃) EN s₂) EN s₂) v _)) (fun rr s₁ h₁ => by
       obtain ⟨v, rfl, h₁⟩ := h₁
       exact h₁) fun _ _ e => e
    obtain ⟨r₂, v₂⟩ := r'.aside (it.shape i S' h' st') new kb
    have x₂ := x'.aside nw kb
    refine ht cx k ok fn.toFnCx hn ρ' S' { s with heap := h₂, toks := t₂ } v ds[i] ρ₂ r₂ rv hbd _ _ ?_
    intro _ h₃ t₃ S₃ r₃ _ x₃ _
    have st₃ := it.ext _ _ _ _ _ st₂ x₃
    refine hb cx ok fn ρ₂ S₃ { s with heap := h₃, toks := t₃ } r₃ _ _ (Out.stepE (s := s) out' (x₂.trans x₃) err fun fl ρ₃ out' a h₄ t₄ S₄ r₄ j₄ x₄ _ => ?_)
    have st₄ := it.ext _ _ _ _ _ st₃ x₄
    have xx := (x₂.trans x₃).trans x₄
    cases a <;> cases fl <;> first
     | exact j₄.elim
     | exact ⟨ds.length + 1 - (i + 1), by omega, hI _ _ (.mk (i := i + 1) (tk := t₄) hlt r₄ st₄ xx out')⟩
     | exact out' _ h₄ t₄ S₄ r₄ j₄ xx fun q => by cases q
  ·have hie : i = ds.length := by exact Nat.le_antisymm hi' (Nat.le_of_not_lt hlt)
   subst hie
   rw [List.drop_length] at out'
   refine it.done S' { s with heap := h', toks := tk } _ _ st' r'.hOk (GX r.hOk nw) fun h₂ t₂ kb => ?_
   obtain ⟨r₂, v₂⟩ := r'.aside (it.shape _ S' h' st') new kb
   exact wpAny_execs_nil (out' .next h₂ t₂ S' r₂ trivial (x'.aside nw kb) fun q => by cases q)
end
end Mine
end

section
set_option Elab.async false
set_option maxRecDepth 100000
namespace Mine
open PySem PyProof.Rows
section
variable {prog : Program} {w : World} {A : Around} {E : Value → Shared → Prop} {s : Shared}
theorem K0 {it l : Addr} {i : Nat} {items} {x : Value} {Q : Value → Shared → Prop} (hit : IsTupIter s.heap it l i) (hl : IsTup s.heap l items) (hx : items[i]? = some x)
  (hQ : ∀ h', IsTupIter h' it l (i + 1) → Heap.SameBut it s.heap h' → Q x { s with heap := h' }) : wpAny (model prog w) A (Builtin.SmallTypes.nextOf (.ref it)) Q E s := by
 obtain ⟨o, ho, hc, hd⟩ := id hit
 obtain ⟨ol, hol, _, nl, hdl⟩ := hl
 unfold Builtin.SmallTypes.nextOf
 refine wpAny_bind (wpAny_callSpecial?_slot (name := Str.ofString "__next__") hit.typeIs slot_tupleiter_next
  (wpAny_call_entry slot_tupleiter_next hit.typeIs entry_tupleiter_next ?_ (args_tupleiter_next _)))
 show wpAny _ _ (field (.ref it) 0 >>= _) _ _ s
 refine wpAny_bind (wpAny_field ho hd (x := .ref l) rfl ?_)
 show wpAny _ _ (if (Value.ref l == Value.none) = true then _ else _) _ _ s
 rw [if_neg (show ¬ ((Value.ref l == Value.none) = true) from Bool.false_ne_true)]
 show wpAny _ _ (field (.ref it) 1 >>= _) _ _ s
 refine wpAny_bind (wpAny_field ho hd (x := .int i 0) rfl ?_)
 show wpAny _ _ (seqItems? (.ref l) >>= _) _ _ s
 refine wpAny_bind (wpAny_seqItems hol hdl ?_)
 simp only [Int.toNat_natCast, hx]
 refine wpAny_bind (wpAny_setField ho hd (by simp) (wpAny_pure ⟨x, rfl, wpAny_pure (hQ _ ?_ (Heap.SameBut.update ..))⟩))
 exact ⟨_, Heap.get?_update_self _ ho (Obj.isFreed_of_fields (Obj.data_mapFields hd _)), (Obj.cls_mapFields ..).trans hc, by
  rw [Obj.data_mapFields hd]; simp [rawInt]⟩
theorem U4 {it l : Addr} {i : Nat} {items} {Q : Value → Shared → Prop} (hh : HOk A s.heap) (hni : ∀ v, A.handled = some v → v ≠ .ref it) (hit : IsTupIter s.heap it l i) (hl : IsTup s.heap l items) (hx : items[i]? = none)
  (hE : ∀ h' e, KB [it] s.heap h' → (∃ o, h'.get? e = some o ∧ o.cls = .type "StopIteration") → E (.ref e) { s with heap := h' }) : wpAny (model prog w) A (Builtin.SmallTypes.nextOf (.ref it)) Q E s := by
 obtain ⟨o, ho, hc, hd⟩ := id hit
 obtain ⟨ol, hol, _, nl, hdl⟩ := hl
 unfold Builtin.SmallTypes.nextOf
 refine wpAny_bind (wpAny_callSpecial?_slot (name := Str.ofString "__next__") hit.typeIs slot_tupleiter_next
  (wpAny_call_entry slot_tupleiter_next hit.typeIs entry_tupleiter_next ?_ (args_tupleiter_next _)))
 exact Uv (A := A.in1) hh ho hd hol hdl hx hni hE
theorem Vq {it l : Addr} {i : Nat} {items} {Q : Value → Shared → Prop} (hh : HOk A s.heap) (hni : ∀ v, A.handled = some v → v ≠ .ref it) (hit : s.heap.IsListIter it l i) (hl : s.heap.IsList l items) (hx : items[i]? = none)
  (hE : ∀ h' e, KB [it] s.heap h' → (∃ o, h'.get? e = some o ∧ o.cls = .type "StopIteration") → E (.ref e) { s with heap := h' }) : wpAny (model prog w) A (Builtin.SmallTypes.nextOf (.ref it)) Q E s := by
 obtain ⟨o, ho, hc, hd⟩ := id hit
 obtain ⟨ol, hol, _, nl, hdl⟩ := hl
 unfold Builtin.SmallTypes.nextOf
 refine wpAny_bind (wpAny_callSpecial?_slot (name := Str.ofString "__next__") hit.typeIs slot_listiter_next
  (wpAny_call_entry slot_listiter_next hit.typeIs entry_listiter_next ?_ (args_listiter_next _)))
 exact UE (A := A.in1) hh ho hd hol hdl hx hni hE
end
theorem KB.ext {a : Addr} {h h' : Heap} (k : KB [a] h h') : Heap.ExtBut a h h' := fun b o hb e => k.1 b o (by simpa using hb) e
theorem DR {prog : Program} {w : World} {A : Around} (hh : A.handled = none) (it l : Addr) (hne : l ≠ it) (items : Array Value) :
  Draws prog w A it [it, l] items.size (fun i v => items[i]? = some v) (fun i h => IsTupIter h it l i ∧ IsTup h l items) where
 live := fun _ _ st => let ⟨o, ho, _⟩ := st.1; ⟨o, ho⟩
 frame := fun _ _ _ st hk => ⟨let ⟨o, ho, r⟩ := st.1; ⟨o, hk it (by simp) o ho, r⟩, let ⟨o, ho, r⟩ := st.2; ⟨o, hk l (by simp) o ho, r⟩⟩
 item := fun i s Q E hi st hQ => by
  refine K0 st.1 st.2 (x := items[i]) (by simp [hi]) fun h' hit' hs' => ?_
  exact hQ _ h' s.toks (by simp [hi]) ⟨hit', st.2.extBut hs'.extBut hne⟩ hs'
 done := fun s Q E st hE => U4 (fun v e => by rw [hh] at e; cases e) (fun v e => by rw [hh] at e; cases e) st.1 st.2 (by simp) fun h' e k he => hE h' e k.ext he
open AutoSeq1 (wpAny_loadPart') in
set_option tactic.hygienic true in
theorem WC (l : Addr) (items : Array Value) (n : Nat) (dct : Option Addr) (sl : Array (Option Value)) :
  Meets (Builtin.«enumerate.__new__» ⟨[.type "enumerate", .ref l], []⟩) (fun _ R s => s.heap.get? l = some { cls := .type "tuple", dict := dct, data := .seq items n, slots := sl } ∧
   R (.ok (.ret (.ref (s.heap.push { cls := .type "tuple_iterator", data := .fields #[.ref l, .int 0 0] }).objs.size)))
    { s with heap := (s.heap.push { cls := .type "tuple_iterator", data := .fields #[.ref l, .int 0 0] }).push { cls := .type "enumerate", data := .fields #[.none, .bool false, .ref s.heap.objs.size, rawInt 0, .none, .none] } }) :=
 .of_wp fun prog w A R s h => by
  obtain ⟨hp, g, d, tk, os⟩ := s; obtain ⟨hl, h⟩ := h
  have hsub := sub_enumerate
  have hL : IsTup (Shared.heap ⟨hp, g, d, tk, os⟩) l items := ⟨_, hl, rfl, n, rfl⟩
  wp_walk using wpAny_loadPart' hl
  refine wpAny_stack_any fun st => wpAny_pure ?_
  split
  ·rename_i c _ _ _ _ _
   cases (c == Value.type "enumerate")
   ·wp_walk using wpAny_loadPart' hl, iter_tuple hL
    exact ⟨_, rfl, h⟩
   ·wp_walk using wpAny_loadPart' hl, iter_tuple hL
    exact ⟨_, rfl, h⟩
  ·wp_walk using wpAny_loadPart' hl, iter_tuple hL
   exact ⟨_, rfl, h⟩
theorem WJ {prog : Program} {w : World} {A : Around} {E : Value → Shared → Prop} {s : Shared} {l : Addr} {items : Array Value} {Q : Value → Shared → Prop} (hL : IsTup s.heap l items)
  (h : ∀ h', IsEnum h' (s.heap.objs.size + 1) s.heap.objs.size 0 .none → IsTupIter h' s.heap.objs.size l 0 → (∀ b o, s.heap.get? b = some o → h'.get? b = some o) → Q (.ref (s.heap.objs.size + 1)) { s with heap := h' }) :
  wpAny (model prog w) A (call (.type "enumerate") [.ref l]) Q E s := by
 obtain ⟨⟨c, dct, dt, sl⟩, hl, hc, n, hd⟩ := hL
 replace hc : c = .type "tuple" := hc
 replace hd : dt = .seq items n := hd
 subst hc hd
 refine callType_new F.called_enumerate (by decide) (F.typeCall_enumerate_1 _) (F.newCall_enumerate_1 _) (fun obj => F.args_object_init_2 obj _) F.entry_enumerate_new
  (WC l items n dct sl) ⟨hl, ?_⟩
 have hz : (s.heap.push { cls := .type "tuple_iterator", data := .fields #[.ref l, .int 0 0] }).objs.size = s.heap.objs.size + 1 := Heap.size_push ..
 show _ ∧ _
 rw [hz]
 have he : IsEnum ((s.heap.push { cls := .type "tuple_iterator", data := .fields #[.ref l, .int 0 0] }).push
   { cls := .type "enumerate", data := .fields #[.none, .bool false, .ref s.heap.objs.size, rawInt 0, .none, .none] }) (s.heap.objs.size + 1) s.heap.objs.size 0 .none := by
  have := Heap.get?_push_size (s.heap.push { cls := .type "tuple_iterator", data := .fields #[.ref l, .int 0 0] })
   (o := { cls := .type "enumerate", data := .fields #[.none, .bool false, .ref s.heap.objs.size, rawInt 0, .none, .none] }) rfl
  rw [hz] at this; exact this
 exact ⟨⟨_, he, rfl⟩, h _ he ⟨_, Heap.get?_push_of_some _ (Heap.get?_push_size _ rfl), rfl, rfl⟩ fun b o x => Heap.get?_push_of_some _ (Heap.get?_push_of_some _ x)⟩
noncomputable def JW (ds : List D) : List D := ds.zipIdx.map fun x => .tup [.int x.2, x.1]
theorem Cv {ds : List D} {i : Nat} {d : D} (h : (JW ds)[i]? = some d) : ∃ e, ds[i]? = some e ∧ d = .tup [.int i, e] := by
 unfold JW at h
 rw [List.getElem?_map] at h
 obtain ⟨x, hx, rfl⟩ := Option.map_eq_some_iff.mp h
 rw [List.getElem?_zipIdx] at hx
 obtain ⟨e, he, rfl⟩ := Option.map_eq_some_iff.mp hx
 exact ⟨e, he, by simp⟩
noncomputable def Ft (T It : String) (e it l : Addr) (ds : List D) (i : Nat) (S : Addr → Prop) (h : Heap) : Prop := (∃ old, IsEnum h e it i old) ∧ Kt T It it l ds i S h
section
variable {G : Gd} {A : Around} {es : List Expr} {n : Nat} {p : Pos}
theorem U9 {T It : String} {e it l : Addr} {ds : List D} (hIt : It ≠ "tuple" ∧ It ≠ "list" ∧ It ≠ "range") : ∀ i S h, Ft T It e it l ds i S h → ∀ b ∈ [e, it], ∃ o, h.get? b = some o ∧ Ye o := by
 rintro i S h ⟨⟨old, he⟩, ⟨o, a1, a2, a3⟩, _⟩ b hb
 rcases List.mem_cons.mp hb with rfl | hb
 ·exact ⟨_, he, _, _, rfl, by decide, by decide, by decide, rfl⟩
 ·rw [List.mem_singleton.mp hb]
  exact ⟨o, a1, _, _, a2, hIt.1, hIt.2.1, hIt.2.2, a3⟩
theorem Gp {e it l : Addr} (hh : A.handled = none) (hei : e ≠ it) (hle : l ≠ e) (hli : l ≠ it) (ds : List D) : ItK G A (.Tuple es n p) e [e, it] (Ft "tuple" "tuple_iterator" e it l ds) (JW ds) where
 shape := U9 (by decide)
 ext := fun i S h S' h' st x => ⟨let ⟨old, he⟩ := st.1; ⟨old, x.exact he (.inr (.inr ⟨_, rfl⟩)) (.fields rfl)⟩, Kt.ext (.inr rfl) i S h S' h' st.2 x⟩
 item := fun i S s d Q E E' hd st hQ => by
  obtain ⟨x, hx, rfl⟩ := Cv hd
  have sh := U9 (by decide) i S s.heap st
  obtain ⟨⟨old, he⟩, ⟨o, a1, a2, a3⟩, ol, vs, m, b1, b2, b3, b4, b5⟩ := st
  obtain ⟨v, hv, rv⟩ := b4.get hx
  have hi : i < vs.size := by
   have := (List.getElem?_eq_some_iff.mp hv).1
   simpa using this
  refine wpAny_pyNext_enum_itemD (DR (A := A.in1) hh it l hli vs) he ⟨⟨o, a1, a2, a3⟩, ol, b1, b2, m, b3⟩ hi hei (by simp; exact ⟨hei, Ne.symm hle⟩) fun y h' tk hP ho st' hT hsz hk => ?_
  have hy : y = v := by rw [show vs[i]? = some v by simpa using hv] at hP; cases hP; rfl
  subst hy
  refine ⟨_, rfl, wpAny_letOwnedTupleGo_enum (s := { s with heap := h', toks := tk + 1 }) ho fun h₂ he₂ hs₂ => ?_⟩
  have hlt : e < s.heap.objs.size := Heap.lt_size he
  have hlt' : it < s.heap.objs.size := Heap.lt_size a1
  obtain ⟨⟨o', c1, c2, c3⟩, _⟩ := st'
  have c1' : h₂.get? it = some o' := (hs₂.2 it (Ne.symm hei)).trans c1
  have kb : KB [e, it] s.heap h₂ := by
   refine ⟨fun b o hb eb => ?_, fun b hb => ?_⟩
   ·simp at hb
    exact (hs₂.2 b hb.1).trans (hk b o hb.1 hb.2 eb)
   ·rcases List.mem_cons.mp hb with rfl | hb
    ·exact ⟨_, he₂⟩
    ·rw [List.mem_singleton.mp hb]; exact ⟨_, c1'⟩
  have ht₂ : h₂.get? s.heap.objs.size = some { cls := .type "tuple", data := .seq #[.int i tk, y] } := (hs₂.2 _ (Nat.ne_of_gt hlt)).trans hT
  refine hQ _ h₂ _ (.tup ht₂ rfl rfl (.cons (.int _ _) (.cons (rv.aside sh kb) .nil))) ⟨⟨_, by simpa using he₂⟩, ⟨o', c1', c2, c3⟩, ol, vs, m, ?_, b2, b3, b4.aside sh kb, b5⟩ kb
  exact kb.1 l ol (by simp; exact ⟨hle, hli⟩) b1
 done := fun S s Q E st hh' hni hQ => by
  have hlen : (JW ds).length = ds.length := by unfold JW; simp
  rw [hlen] at st
  obtain ⟨⟨old, he⟩, ⟨o, a1, a2, a3⟩, ol, vs, m, b1, b2, b3, b4, b5⟩ := st
  have hT : s.TypeIs (.ref e) "enumerate" := ⟨_, he, rfl⟩
  unfold pyNext
  refine wpAny_bind (wpAny_attempt (wpAny_callSpecial?_slot (name := Str.ofString "__next__") hT F.slot_enumerate_next
   (wpAny_call_entry F.slot_enumerate_next hT F.entry_enumerate_next ?_ (F.args_enumerate_next_1 _))))
  show wpAny _ _ (field (.ref e) 2 >>= _) _ _ _
  refine wpAny_bind (wpAny_field he rfl (x := .ref it) rfl ?_)
  refine wpAny_bind (U4 (A := A.in1) hh' (fun v q => hni v q it (.tail _ (.head _))) ⟨o, a1, a2, a3⟩ ⟨ol, b1, b2, m, b3⟩ (by have := b4.length; simp at this; simp [this]) fun h' x kb hx' => ?_)
  obtain ⟨ox, ho, hc⟩ := hx'
  refine wpAny_bind (wpAny_isInstance (T := "StopIteration") (b := true) ⟨ox, ho, hc⟩ isSubtype_stop ?_)
  refine wpAny_pure (hQ h' s.toks ⟨fun b o hb eb => kb.1 b o (fun q => hb (.tail _ q)) eb, fun b hb => ?_⟩)
  rcases List.mem_cons.mp hb with rfl | hb
  ·exact ⟨_, kb.1 _ _ (by simpa using hei) he⟩
  ·exact kb.2 b hb
 self := fun i S s Q E st hQ => by
  obtain ⟨⟨old, he⟩, _⟩ := st
  exact wpAny_pyIter_enum he hQ
theorem GA {e it l : Addr} (hh : A.handled = none) (hei : e ≠ it) (hle : l ≠ e) (hli : l ≠ it) (ds : List D) : ItK G A (.Tuple es n p) e [e, it] (Ft "list" "list_iterator" e it l ds) (JW ds) where
 shape := U9 (by decide)
 ext := fun i S h S' h' st x => ⟨let ⟨old, he⟩ := st.1; ⟨old, x.exact he (.inr (.inr ⟨_, rfl⟩)) (.fields rfl)⟩, Kt.ext (.inl rfl) i S h S' h' st.2 x⟩
 item := fun i S s d Q E E' hd st hQ => by
  obtain ⟨x, hx, rfl⟩ := Cv hd
  have sh := U9 (by decide) i S s.heap st
  obtain ⟨⟨old, he⟩, ⟨o, a1, a2, a3⟩, ol, vs, m, b1, b2, b3, b4, b5⟩ := st
  obtain ⟨v, hv, rv⟩ := b4.get hx
  have hi : i < vs.size := by
   have := (List.getElem?_eq_some_iff.mp hv).1
   simpa using this
  refine wpAny_pyNext_enum_itemD (Draws.list (A := A.in1) hh it l hli vs) he ⟨⟨o, a1, a2, a3⟩, ol, b1, b2, m, b3⟩ hi hei (by simp; exact ⟨hei, Ne.symm hle⟩) fun y h' tk hP ho st' hT hsz hk => ?_
  have hy : y = v := by rw [show vs[i]? = some v by simpa using hv] at hP; cases hP; rfl
  subst hy
  refine ⟨_, rfl, wpAny_letOwnedTupleGo_enum (s := { s with heap := h', toks := tk + 1 }) ho fun h₂ he₂ hs₂ => ?_⟩
  have hlt : e < s.heap.objs.size := Heap.lt_size he
  have hlt' : it < s.heap.objs.size := Heap.lt_size a1
  obtain ⟨⟨o', c1, c2, c3⟩, _⟩ := st'
  have c1' : h₂.get? it = some o' := (hs₂.2 it (Ne.symm hei)).trans c1
  have kb : KB [e, it] s.heap h₂ := by
   refine ⟨fun b o hb eb => ?_, fun b hb => ?_⟩
   ·simp at hb
    exact (hs₂.2 b hb.1).trans (hk b o hb.1 hb.2 eb)
   ·rcases List.mem_cons.mp hb with rfl | hb
    ·exact ⟨_, he₂⟩
    ·rw [List.mem_singleton.mp hb]; exact ⟨_, c1'⟩
  have ht₂ : h₂.get? s.heap.objs.size = some { cls := .type "tuple", data := .seq #[.int i tk, y] } := (hs₂.2 _ (Nat.ne_of_gt hlt)).trans hT
  refine hQ _ h₂ _ (.tup ht₂ rfl rfl (.cons (.int _ _) (.cons (rv.aside sh kb) .nil))) ⟨⟨_, by simpa using he₂⟩, ⟨o', c1', c2, c3⟩, ol, vs, m, ?_, b2, b3, b4.aside sh kb, b5⟩ kb
  exact kb.1 l ol (by simp; exact ⟨hle, hli⟩) b1
 done := fun S s Q E st hh' hni hQ => by
  have hlen : (JW ds).length = ds.length := by unfold JW; simp
  rw [hlen] at st
  obtain ⟨⟨old, he⟩, ⟨o, a1, a2, a3⟩, ol, vs, m, b1, b2, b3, b4, b5⟩ := st
  have hT : s.TypeIs (.ref e) "enumerate" := ⟨_, he, rfl⟩
  unfold pyNext
  refine wpAny_bind (wpAny_attempt (wpAny_callSpecial?_slot (name := Str.ofString "__next__") hT F.slot_enumerate_next
   (wpAny_call_entry F.slot_enumerate_next hT F.entry_enumerate_next ?_ (F.args_enumerate_next_1 _))))
  show wpAny _ _ (field (.ref e) 2 >>= _) _ _ _
  refine wpAny_bind (wpAny_field he rfl (x := .ref it) rfl ?_)
  refine wpAny_bind (Vq (A := A.in1) hh' (fun v q => hni v q it (.tail _ (.head _))) ⟨o, a1, a2, a3⟩ ⟨ol, b1, b2, m, b3⟩ (by have := b4.length; simp at this; simp [this]) fun h' x kb hx' => ?_)
  obtain ⟨ox, ho, hc⟩ := hx'
  refine wpAny_bind (wpAny_isInstance (T := "StopIteration") (b := true) ⟨ox, ho, hc⟩ isSubtype_stop ?_)
  refine wpAny_pure (hQ h' s.toks ⟨fun b o hb eb => kb.1 b o (fun q => hb (.tail _ q)) eb, fun b hb => ?_⟩)
  rcases List.mem_cons.mp hb with rfl | hb
  ·exact ⟨_, kb.1 _ _ (by simpa using hei) he⟩
  ·exact kb.2 b hb
 self := fun i S s Q E st hQ => by
  obtain ⟨⟨old, he⟩, _⟩ := st
  exact wpAny_pyIter_enum he hQ
end
noncomputable def Ve (f : AEnv → Res T) : AEnv → Res (List D) := fun ρ => (f ρ).bind fun t ρ₁ => match t.val with
 | .list ds => .ok (JW ds) ρ₁
 | .tup ds => .ok (JW ds) ρ₁
 | _ => .stuck
set_option tactic.hygienic true in
theorem F3 {G : Gd} {k : Nat} {sc : Scope} {es : List Expr} {n : Nat} {tp p pos : Pos} {e : Expr} {f : AEnv → Res T} (hq : G.quiet = true) (hn : Sim G k sc (.Name "enumerate" p) (Qd (.glob (.type "enumerate")))) (h : Sim G k sc e f) (hu : XH e = true) :
  BT G k sc (.Tuple es n tp) (.Call (.Name "enumerate" p) [e] [] pos) (Ve f) := by
 intro cx ok ρ S s r Q E out
 show wpAny G.M cx.A (do callWith pos (← eval (.Name "enumerate" p) cx.env) [] (backTo pos (starEach [e] cx.env)) []) _ E s
 refine wpAny_bind (hn cx ok ρ S s r _ _ ?_)
 intro v h₀ t₀ S₀ r₀ j₀ x₀ v₀
 have hv : v = .type "enumerate" := by cases j₀; rfl
 subst hv
 refine Ud (fun a q => by cases q) (J9 [e] (by simp [hu])) (Yi (by simp [hu]) ?_)
 rw [US hu]
 refine wpAny_bind ((h cx ok ρ S₀ { s with heap := h₀, toks := t₀ } r₀).shared _ _ ?_)
 refine Gu.stepS (s := s) (tg := .Tuple es n tp) out x₀ fun t ρ₁ out v h₁ t₁ S₁ r₁ j₁ x₁ v₁ => ?_
 refine wpAny_bind (wpAny_pure (wpAny_bind (wpAny_holding (wpAny_pure (wpAny_pure ?_)))))
 have xx := x₀.trans x₁
 have nw : ∀ b ∈ [h₁.objs.size + 1, h₁.objs.size], s.heap.get? b = none := fun b hb => by
  refine xx.none (Heap.get?_none_of_le ?_)
  rcases List.mem_cons.mp hb with rfl | hb
  ·exact Nat.le_succ _
  ·rw [List.mem_singleton.mp hb]; exact Nat.le_refl _
 have ne : h₁.objs.size + 1 ≠ h₁.objs.size := Nat.succ_ne_self _
 split at out
 ·rename_i ds e
  rw [e] at j₁
  cases j₁ with
  | list hs e1 e2 e3 q =>
   rename_i a o vs m
   have ha := Heap.lt_size e1
   refine call_enumerate_list (s := { s with heap := h₁, toks := t₁ }) ⟨o, e1, e2.1, m, e3⟩ fun h₂ he hit hz hk => ?_
   obtain ⟨r₂, x₂, v₂⟩ := r₁.keepsE hk
   refine wpAny_pyIter_enum he ?_
   exact out _ [h₁.objs.size + 1, h₁.objs.size] _ S₁ h₂ t₁ r₂ (GA (ok.hd hq) ne (Nat.ne_of_lt (Nat.lt_succ_of_lt ha)) (Nat.ne_of_lt ha) ds) ⟨⟨_, he⟩, hit, o, vs, m, hk _ _ e1, e2.1, e3, q.ext x₂, fun _ => hs⟩ nw (xx.trans x₂) (((v₀ rfl).trans (v₁ rfl)).trans v₂)
 ·rename_i ds e
  rw [e] at j₁
  cases j₁ with
  | tup e1 e2 e3 q =>
   rename_i a o vs m
   have ha := Heap.lt_size e1
   refine WJ (s := { s with heap := h₁, toks := t₁ }) ⟨o, e1, e2, m, e3⟩ fun h₂ he hit hk => ?_
   obtain ⟨r₂, x₂, v₂⟩ := r₁.keepsE hk
   refine wpAny_pyIter_enum he ?_
   exact out _ [h₁.objs.size + 1, h₁.objs.size] _ S₁ h₂ t₁ r₂ (Gp (ok.hd hq) ne (Nat.ne_of_lt (Nat.lt_succ_of_lt ha)) (Nat.ne_of_lt ha) ds) ⟨⟨_, he⟩, hit, o, vs, m, hk _ _ e1, e2, e3, q.ext x₂, fun q => absurd q (by decide)⟩ nw (xx.trans x₂) (((v₀ rfl).trans (v₁ rfl)).trans v₂)
 ·exact out.elim
end Mine
end

section
set_option Elab.async false
set_option maxRecDepth 100000
namespace Mine
open PySem PyProof.Rows
noncomputable def U2 (h : Heap) (X : List Addr) : Heap := { h with objs := h.objs.mapIdx fun i o => if i ∈ X then { o with data := .freed } else o }
theorem Yo (h : Heap) (X : List Addr) (a : Addr) : (U2 h X).get? a = if a ∈ X then none else h.get? a := by
 unfold U2 Heap.get?
 simp only [Array.getElem?_mapIdx]
 cases h.objs[a]? with
 | none => simp
 | some o =>
  by_cases hx : a ∈ X
  ·simp [hx]
  ·simp [hx]
theorem Fv {h : Heap} {X : List Addr} {a : Addr} {o : Obj} (e : (U2 h X).get? a = some o) : a ∉ X ∧ h.get? a = some o := by
 rw [Yo] at e
 split at e
 ·cases e
 ·exact ⟨by assumption, e⟩
structure After (X : List Addr) (S : Addr → Prop) (h : Heap) (S' : Addr → Prop) (h' : Heap) : Prop where
 keep : ∀ b o, b ∉ X → h.get? b = some o → Kept h' b o
 dom : ∀ b ∈ X, ∃ o, h'.get? b = some o
 shape : ∀ b ∈ X, ∃ o, h.get? b = some o ∧ Ye o
 sub : ∀ b, S b → S' b
 new : ∀ b, S' b → S b ∨ b ∈ X ∨ h.get? b = none
 sdom : EU S' h'
section
variable {X : List Addr} {S S' S'' : Addr → Prop} {h h' h'' : Heap}
theorem After.exact (k : After X S h S' h') {b : Addr} {o : Obj} (e : h.get? b = some o) (hi : ¬ Ye o) (hn : JC o) : h'.get? b = some o := by
 have hb : b ∉ X := fun m => by obtain ⟨o', e', q⟩ := k.shape b m; rw [e] at e'; cases e'; exact hi q
 obtain ⟨sl, e', q⟩ := k.keep b o hb e
 rw [q hn] at e'; exact e'
theorem After.domAll (k : After X S h S' h') {b : Addr} {o : Obj} (e : h.get? b = some o) : ∃ o', h'.get? b = some o' := by
 by_cases hb : b ∈ X
 ·exact k.dom b hb
 ·obtain ⟨sl, e', _⟩ := k.keep b o hb e; exact ⟨_, e'⟩
theorem Jc {o : Obj} {vs : Array Value} {n : Nat} (hd : o.data = .seq vs n) : ¬ Ye o := fun ⟨_, _, _, _, _, _, q⟩ => by rw [hd] at q; cases q
theorem JN {o : Obj} {v : Option Value} (hd : o.data = .cell v) : ¬ Ye o := fun ⟨_, _, _, _, _, _, q⟩ => by rw [hd] at q; cases q
theorem ZG {o : Obj} {es : Array DictEntry} {n : Nat} (hd : o.data = .dict es n) : ¬ Ye o := fun ⟨_, _, _, _, _, _, q⟩ => by rw [hd] at q; cases q
theorem After.carry (k : After X S h S' h') : Carry S h S' h' where
 tup := fun e hc hd => k.exact e (Jc hd) (.seq hd)
 list := fun hs e hc hd => ⟨k.sub _ hs, k.exact e (Jc hd) (.seq hd)⟩
 range := fun e => k.exact e (fun ⟨_, _, q1, _, _, q4, _⟩ => by cases q1; exact q4 rfl) (.fields rfl)
 exc := fun e hc hn hd r => .exc (k.exact e (fun ⟨_, _, q1, _⟩ => by rw [hc] at q1; cases q1) (.fields hd)) hc hn hd r
 dom := fun a o e' => k.domAll e'
 obj := fun s1 s2 e n => ⟨k.sub _ s1, k.sub _ s2, k.exact e (fun ⟨_, _, q1, _⟩ => by cases q1) (fun es m q => by cases q), by
  obtain ⟨o, es, ep, ho, hd, r⟩ := n
  have hb : _ ∉ X := fun q => by obtain ⟨o', e', q⟩ := k.shape _ q; rw [ho] at e'; cases e'; exact ZG hd q
  obtain ⟨sl, e', _⟩ := k.keep _ o hb ho
  exact ⟨_, es, ep, e', hd, r⟩⟩
theorem RV.after (k : After X S h S' h') {v : Value} {d : D} (q : RV S h v d) : RV S' h' v d := q.map k.carry
theorem After.ns (k : After X S h S' h') {a : Addr} {m : Str → Option Value} (n : h.Ns a m) : h'.Ns a m := by
 obtain ⟨o, es, ep, ho, hd, r⟩ := n
 have hb : a ∉ X := fun q => by obtain ⟨o', e', q⟩ := k.shape a q; rw [ho] at e'; cases e'; exact ZG hd q
 obtain ⟨sl, e', _⟩ := k.keep a o hb ho
 exact ⟨_, es, ep, e', hd, r⟩
theorem After.cell (k : After X S h S' h') {c : Addr} {v : Option Value} (n : h.IsCell c v) : h'.IsCell c v := by
 obtain ⟨o, ho, hd⟩ := n
 exact ⟨o, k.exact ho (JN hd) (fun es n q => by rw [hd] at q; cases q), hd⟩
theorem After.ownV (k : After X S h S' h') {a : Addr} {d : D} (q : Wx S h a d) : Wx S' h' a d :=
 q.map k.carry fun o e hd => k.keep a o (fun m => by
  obtain ⟨o', e', q⟩ := k.shape a m
  rw [e] at e'; cases e'
  rcases hd with ⟨_, _, hd⟩ | ⟨_, _, hd⟩
  ·exact Jc hd q
  ·exact ZG hd q) e
theorem After.notS (k : After X S h S' h') {a : Addr} {o : Obj} (e : h.get? a = some o) (hi : ¬ Ye o) (hs : ¬ S a) : ¬ S' a := fun q => by
 rcases k.new a q with q | q | q
 ·exact hs q
 ·obtain ⟨o', e', q⟩ := k.shape a q; rw [e] at e'; cases e'; exact hi q
 ·rw [e] at q; cases q
end
section
variable {G : Gd} {cx : Cx} {sc : Scope} {ρ : AEnv} {X : List Addr} {S S' : Addr → Prop} {h h' : Heap}
theorem Rel.after (r : Rel G cx sc ρ S h) (k : After X S h S' h') (hb : G.B.StaysIn h') (new : ∀ b ∈ X, cx.h₀.get? b = none) : Rel G cx sc ρ S' h' ∧ QR cx.env h h' := by
 have same : QR cx.env h h' := fun y w q => by
  rcases q with ⟨a, m₁, b, c⟩ | ⟨a, c, b, d⟩
  ·exact .inl ⟨a, m₁, k.ns b, c⟩
  ·exact .inr ⟨a, c, b, k.cell d⟩
 have hf : ∀ y w, Var cx.env h' y w → Var cx.env h y w := fun y w q => by
  rcases q with ⟨a, m₁, b, c⟩ | ⟨a, c, b, d⟩
  ·obtain ⟨m₀, n₀⟩ := r.ns
   exact .inl ⟨a, m₀, n₀, by rw [(k.ns n₀).agree b y]; exact c⟩
  ·obtain ⟨w₀, n₀⟩ := r.cells y c b
   exact .inr ⟨a, c, b, by rw [IsCell.inj d (k.cell n₀)]; exact n₀⟩
 refine ⟨⟨hb, fun b o q => ?_, fun env he => ?_, let ⟨m, n⟩ := r.ns; ⟨m, k.ns n⟩, fun y c q => let ⟨w, n⟩ := r.cells y c q; ⟨w, k.cell n⟩, k.sdom, fun b q => ?_, ?_, fun y c e => ?_, fun y b hdy q => let ⟨o, eo⟩ := r.live y b hdy (hf y _ q); k.domAll eo, r.clean, fun v q => let ⟨C, e⟩ := r.hok v q; ⟨C, e.after k⟩, fun j y u hy hu => ?_, fun j l y z m m' d d' u hy hz hj hl a b => r.inj j l y z m m' d d' u hy hz hj hl (hf y _ a) (hf z _ b), r.dok.back hf⟩, same⟩
 ·obtain ⟨sl, q₁, k₁⟩ := r.keep b o q
  obtain ⟨sl', q₂, k₂⟩ := k.keep b _ (fun m => by rw [new b m] at q; cases q) q₁
  exact ⟨sl', q₂, fun hn => (k₂ hn).trans (k₁ hn)⟩
 ·obtain ⟨p, L, o, b, c, d, es, n, q⟩ := r.ff env he
  have hL : L ∉ X := fun m => by obtain ⟨o', e', q'⟩ := k.shape L m; rw [d] at e'; cases e'; exact ZG q q'
  obtain ⟨sl', q₂, k₂⟩ := k.keep L o hL d
  exact ⟨p, L, _, b, c, q₂, es, n, q⟩
 ·rcases k.new b q with q | q | q
  ·exact r.sok b q
  ·exact .inr (new b q)
  ·exact .inr (r.keep.none q)
 ·obtain ⟨m, o, es, ep, e, hd, _⟩ := r.ns
  exact k.notS e (ZG hd) r.sloc
 ·obtain ⟨w, o, e', hd⟩ := r.cells y c e
  exact k.notS e' (JN hd) (r.scell y c e)
 ·obtain ⟨w, hw', tw⟩ := r.vars j y u hy hu
  refine ⟨w, same y w hw', ?_⟩
  cases u with
  | sh d => exact RV.after k tw
  | ow m d =>
   obtain ⟨b, rfl, n1, ow, n2⟩ := tw
   obtain ⟨o, ho, hd⟩ := ow.live
   exact ⟨b, rfl, k.notS ho (hd.elim (fun ⟨_, _, hd⟩ => Jc hd) fun ⟨_, _, hd⟩ => ZG hd) n1, k.ownV ow, n2⟩
end
noncomputable def QQ (csc sc : Scope) : Scope := { csc with names := csc.names.map fun (n, k) => if (k == .free && sc.kind == .function && sc.names.lookup n == some .cell) then (n, .cell) else (n, k) }
theorem EF {csc sc : Scope} {env : Env} (h : env.scope = sc) : relabel csc env = QQ csc sc := by
 unfold relabel QQ Env.kindOf
 rw [h]
noncomputable def WI : List Str → Bool
 | [] => true
 | x :: r => !r.contains x && WI r
theorem Yr : ∀ {l : List Str}, WI l = true → l.Nodup
 | [], _ => .nil
 | x :: r, h => by
  rw [WI, Bool.and_eq_true_iff] at h
  exact List.nodup_cons.mpr ⟨by simpa using h.1, Yr h.2⟩
noncomputable def UK (sc csc : Scope) : Bool := csc.kind == .function && WI (csc.names.map (·.1)) && csc.names.all fun x => x.2 != .free || ((Qm sc).contains x.1 && (sc.names.lookup x.1 == some .cell || sc.names.lookup x.1 == some .free))
theorem J8 {α : Type} : ∀ {l : List (Str × α)} {x : Str} {k : α}, (l.map (·.1)).Nodup → (x, k) ∈ l → l.lookup x = some k
 | (y, j) :: r, x, k, nd, h => by
  have nd' : y ∉ r.map (·.1) ∧ (r.map (·.1)).Nodup := by simpa using nd
  rw [List.lookup_cons]
  rcases List.mem_cons.mp h with e | hr
  ·cases e; simp
  ·have : (x == y) = false := by
    rw [beq_eq_false_iff_ne]
    rintro rfl
    exact nd'.1 (List.mem_map.mpr ⟨(x, k), hr, rfl⟩)
   rw [this]
   exact J8 nd'.2 hr
theorem Kl {α : Type} (f : Str → α → α) (x : Str) : ∀ (l : List (Str × α)), (l.map fun p => (p.1, f p.1 p.2)).lookup x = (l.lookup x).map (f x)
 | [] => rfl
 | (n, k) :: r => by
  rw [List.map_cons, List.lookup_cons, List.lookup_cons]
  cases hx : x == n with
  | true => rw [beq_iff_eq.mp hx]; rfl
  | false => exact Kl f x r
theorem Wu {csc sc : Scope} {x : Str} : (QQ csc sc).names.lookup x = (csc.names.lookup x).map fun k => if (k == .free && sc.kind == .function && sc.names.lookup x == some .cell) then .cell else k := by
 have e : (QQ csc sc).names = csc.names.map fun p => (p.1, (fun n k => if (k == NameKind.free && sc.kind == .function && sc.names.lookup n == some .cell) then NameKind.cell else k) p.1 p.2) := by
  unfold QQ
  apply List.map_congr_left
  intro p _
  obtain ⟨n, k⟩ := p
  simp only
  split <;> rfl
 rw [e]
 exact Kl (fun n k => if (k == NameKind.free && sc.kind == .function && sc.names.lookup n == some .cell) then NameKind.cell else k) x csc.names
theorem WA {sc : Scope} (h : (sc.names.map (·.1)).Nodup) : (Qm sc).Nodup := by
 unfold Qm
 exact h.sublist (List.Sublist.map _ List.filter_sublist)
theorem Ox (csc sc : Scope) : (QQ csc sc).names.map (·.1) = csc.names.map (·.1) := by
 unfold QQ
 simp only [List.map_map]
 apply List.map_congr_left
 intro x _
 simp only [Function.comp]
 split <;> rfl
noncomputable def Un (env : Env) : List (Str × NameKind) → List (Str × Addr) → List (Str × Addr)
 | [], acc => acc
 | (n, k) :: r, acc => if k == .free then (match env.cells.lookup n with | some c => Un env r ((n, c) :: acc) | none => Un env r acc) else Un env r acc
theorem Cb {csc : Scope} {env : Env} (h : ∀ x ∈ csc.names, x.2 = .free → ∃ c, env.cells.lookup x.1 = some c) : closureFor csc env = pure (Un env csc.names []) := by
 have key : ∀ (l : List (Str × NameKind)) (acc : List (Str × Addr)), (∀ x ∈ l, x.2 = .free → ∃ c, env.cells.lookup x.1 = some c) →
   (forIn l acc fun x r => match x with | (name, kind) => if kind == .free then (do let a ← cellOf env name; pure (ForInStep.yield ((name, a) :: r))) else pure (ForInStep.yield r) : Sem (List (Str × Addr))) = pure (Un env l acc) := by
  intro l
  induction l with
  | nil => intro acc _; rfl
  | cons x r ih =>
   intro acc hl
   obtain ⟨n, k⟩ := x
   rw [List.forIn_cons, Un]
   by_cases hk : k == .free
   ·obtain ⟨c, hc⟩ := hl (n, k) (.head _) (beq_iff_eq.mp hk)
    simp only [hk, if_true]
    have : cellOf env n = pure c := by unfold cellOf; simp only at hc; rw [hc]
    rw [this]
    simp only [hc]
    rw [pure_bind, pure_bind]
    exact ih _ fun y hy => hl y (.tail _ hy)
   ·simp only [hk, Bool.false_eq_true, if_false]
    rw [pure_bind]
    exact ih _ fun y hy => hl y (.tail _ hy)
 unfold closureFor
 have := key csc.names [] h
 simp only [bind_pure] 
 exact this
set_option tactic.hygienic true in
theorem Yh {env : Env} : ∀ {l : List (Str × NameKind)} {acc : List (Str × Addr)} {x : Str} {c : Addr}, (Un env l acc).lookup x = some c → env.cells.lookup x = some c ∨ acc.lookup x = some c
 | [], _, _, _, h => .inr h
 | (n, k) :: r, acc, x, c, h => by
  rw [Un] at h
  split at h
  ·split at h
   ·rename_i c' hc
    rcases Yh h with q | q
    ·exact .inl q
    ·rw [List.lookup_cons] at q
     cases hx : x == n with
     | true => rw [hx] at q; cases q; rw [beq_iff_eq.mp hx]; exact .inl hc
     | false => rw [hx] at q; exact .inr q
   ·exact Yh h
  ·exact Yh h
set_option tactic.hygienic true in
theorem UD {env : Env} : ∀ {l : List (Str × NameKind)} {acc : List (Str × Addr)} {x : Str} {c : Addr}, (Un env l acc).lookup x = some c → (x, .free) ∈ l ∨ ∃ c', acc.lookup x = some c'
 | [], _, _, _, h => .inr ⟨_, h⟩
 | (n, k) :: r, acc, x, c, h => by
  rw [Un] at h
  split at h
  ·rename_i hk
   split at h
   ·rcases UD h with q | ⟨c', q⟩
    ·exact .inl (.tail _ q)
    ·rw [List.lookup_cons] at q
     cases hx : x == n with
     | true => rw [beq_iff_eq.mp hx, ← beq_iff_eq.mp hk]; exact .inl (.head _)
     | false => rw [hx] at q; exact .inr ⟨_, q⟩
   ·rcases UD h with q | q
    ·exact .inl (.tail _ q)
    ·exact .inr q
  ·rcases UD h with q | q
   ·exact .inl (.tail _ q)
   ·exact .inr q
set_option tactic.hygienic true in
theorem J4 {env : Env} {x : Str} {c : Addr} (hc : env.cells.lookup x = some c) : ∀ {l : List (Str × NameKind)} {acc : List (Str × Addr)}, ((x, .free) ∈ l ∨ acc.lookup x = some c) → (Un env l acc).lookup x = some c
 | [], _, h => h.elim (fun q => by cases q) id
 | (n, k) :: r, acc, h => by
  rw [Un]
  by_cases hx : x = n
  ·subst hx
   split
   ·rw [hc]
    exact J4 hc (.inr (by simp))
   ·rename_i hk
    refine J4 hc ?_
    rcases h with h | h
    ·rcases List.mem_cons.mp h with e | h
     ·cases e; exact absurd rfl hk
     ·exact .inl h
    ·exact .inr h
  ·have h' : (x, NameKind.free) ∈ r ∨ acc.lookup x = some c := h.imp (fun h => by
    rcases List.mem_cons.mp h with e | h
    ·cases e; exact absurd rfl hx
    ·exact h) id
   have hb : (x == n) = false := by simpa using hx
   split
   ·split
    ·exact J4 hc (h'.imp id fun q => by rw [List.lookup_cons, hb]; exact q)
    ·exact J4 hc h'
   ·exact J4 hc h'
set_option tactic.hygienic true in
theorem Jt : ∀ {l : List (Str × NameKind)} {n : Nat} {acc : List (Str × Addr)} {x : Str} {c : Addr}, (cellsFrom n l acc).lookup x = some c → (n ≤ c ∧ (x, .cell) ∈ l) ∨ acc.lookup x = some c
 | [], _, _, _, _, h => .inr h
 | (y, k) :: r, n, acc, x, c, h => by
  unfold cellsFrom at h
  split at h
  ·rename_i hk
   rcases Jt h with ⟨q, m⟩ | q
   ·exact .inl ⟨Nat.le_of_succ_le q, .tail _ m⟩
   ·rw [List.lookup_cons] at q
    cases hx : x == y with
    | true => rw [hx] at q; cases q; rw [beq_iff_eq.mp hx, ← beq_iff_eq.mp hk]; exact .inl ⟨Nat.le_refl _, .head _⟩
    | false => rw [hx] at q; exact .inr q
  ·rcases Jt h with ⟨q, m⟩ | q
   ·exact .inl ⟨q, .tail _ m⟩
   ·exact .inr q
set_option tactic.hygienic true in
theorem UQ : ∀ {l : List (Str × NameKind)} {n : Nat} {acc : List (Str × Addr)} {x : Str}, (∀ k, (x, k) ∈ l → k ≠ .cell) → (cellsFrom n l acc).lookup x = acc.lookup x
 | [], _, _, _, _ => rfl
 | (y, k) :: r, n, acc, x, h => by
  unfold cellsFrom
  split
  ·rename_i hk
   rw [UQ fun k' m => h k' (.tail _ m), List.lookup_cons]
   have : (x == y) = false := by
    rw [beq_eq_false_iff_ne]
    rintro rfl
    exact h k (.head _) (beq_iff_eq.mp hk)
   rw [this]
  ·exact UQ fun k' m => h k' (.tail _ m)
theorem Ki {M : Model} {A : Around} {E : Value → Shared → Prop} {s : Shared} {csc : Scope} {gl : Addr} {cl : List (Str × Addr)} {q : Str} {env : Env} {Q : Env → Shared → Prop}
  (h : Q { scope := csc, locals := s.heap.objs.size, globals := gl, cells := cellsFrom (s.heap.objs.size + 1) csc.names cl, qual := q, func := none, code := env.code, frame := env.frame, builtins := env.builtins } { s with heap := pushCells (s.heap.push { cls := .type "dict", data := .dict #[] }) csc.names }) :
  wpAny M A (newFunctionEnv csc gl cl [] q none .none (some env)) Q E s := by
 simp only [newFunctionEnv, Option.isSome_some, if_true]
 refine wpAny_bind (wpAny_alloc ?_)
 refine wpAny_bind (wpAny_layCells _ (fun name kind cells => by cases hkc : kind == NameKind.cell <;> simp [hkc]) _ _ _ _ ?_)
 rw [show ({ s with heap := s.heap.push { cls := .type "dict", data := .dict #[] } } : Shared).heap.objs.size = s.heap.objs.size + 1 from Heap.size_push ..]
 rw [List.forIn_nil]
 exact wpAny_bind (wpAny_pure (wpAny_pure h))
end Mine
end

section
set_option Elab.async false
set_option maxRecDepth 100000
namespace Mine
open PySem PyProof.Rows
noncomputable def T.weak : T → T
 | .sh d => .sh d
 | .ow _ d => .ow false d
noncomputable def WD (sc csc : Scope) (ρ : AEnv) (x : Str) : Option (Option T) :=
 if csc.names.lookup x == some .free then (match (Qm sc).findIdx? (· == x) with
  | some i => (match ρ[i]? with | some (some t) => some (some t.weak) | _ => none)
  | none => none) else some none
noncomputable def Vz (sc csc : Scope) (ρ : AEnv) : List Str → Option AEnv
 | [] => some []
 | x :: r => match WD sc csc ρ x, Vz sc csc ρ r with
  | some t, some ts => some (t :: ts)
  | _, _ => none
set_option tactic.hygienic true in
theorem D5 {sc csc : Scope} {ρ : AEnv} : ∀ {l : List Str} {ρ₀ : AEnv}, Vz sc csc ρ l = some ρ₀ → ∀ {j : Nat} {x : Str} {u : Option T}, l[j]? = some x → ρ₀[j]? = some u → WD sc csc ρ x = some u
 | [], _, _, _, _, _, h, _ => by simp at h
 | y :: r, ρ₀, e, j, x, u, hx, hu => by
  rw [Vz] at e
  split at e
  ·rename_i t ts h1 h2
   cases e
   cases j with
   | zero => simp at hx hu; subst hx; subst hu; exact h1
   | succ j => exact D5 h2 (by simpa using hx) (by simpa using hu)
  ·cases e
set_option tactic.hygienic true in
theorem DK {sc csc : Scope} {ρ : AEnv} : ∀ {l : List Str} {ρ₀ : AEnv}, Vz sc csc ρ l = some ρ₀ → ∀ {x : Str}, x ∈ l → ∃ u, WD sc csc ρ x = some u
 | [], _, _, _, h => by cases h
 | y :: r, ρ₀, e, x, hx => by
  rw [Vz] at e
  split at e
  ·rename_i t ts h1 h2
   rcases List.mem_cons.mp hx with rfl | hx
   ·exact ⟨_, h1⟩
   ·exact DK h2 hx
  ·cases e
set_option tactic.hygienic true in
theorem Vd {sc csc : Scope} {ρ : AEnv} {x : Str} {t : T} (h : WD sc csc ρ x = some (some t)) : csc.names.lookup x = some .free ∧ ∃ (i : Nat) (t₀ : T), (Qm sc)[i]? = some x ∧ ρ[i]? = some (some t₀) ∧ t = t₀.weak := by
 unfold WD at h
 split at h
 ·rename_i hf
  refine ⟨beq_iff_eq.mp hf, ?_⟩
  split at h
  ·rename_i i hi
   split at h
   ·rename_i t₀ ht
    cases h
    obtain ⟨h1, h2, _⟩ := List.findIdx?_eq_some_iff_getElem.mp hi
    exact ⟨i, t₀, by rw [List.getElem?_eq_getElem h1]; exact congrArg some (beq_iff_eq.mp h2), ht, rfl⟩
   ·cases h
  ·cases h
 ·cases h
theorem D8 {sc csc : Scope} {ρ : AEnv} {x : Str} {u : Option T} (h : WD sc csc ρ x = some u) (hf : csc.names.lookup x = some .free) : ∃ t, u = some t := by
 unfold WD at h
 rw [if_pos (by rw [hf]; rfl)] at h
 split at h
 ·split at h
  ·cases h; exact ⟨_, rfl⟩
  ·cases h
 ·cases h
noncomputable def ZF (csc : Scope) (env : Env) (C : Addr) : List (Str × Addr) := cellsFrom (C + 1) csc.names (Un env csc.names [])
noncomputable def Uo (csc sc : Scope) (env : Env) (C : Addr) : Env := { scope := QQ csc sc, locals := C, globals := env.globals, cells := ZF csc env C, qual := env.qual, func := none, code := env.code, frame := env.frame, builtins := env.builtins }
noncomputable def OT (csc : Scope) (env : Env) (C : Addr) : List Addr := ((ZF csc env C).filter fun p => decide (C < p.2)).map (·.2)
noncomputable def V1 (cx : Cx) (csc sc : Scope) (C : Addr) (wr : List Addr) (S : Addr → Prop) (h : Heap) : Cx := { A := cx.A, env := Uo csc sc cx.env C, fs := cx.fs, h₀ := U2 h (wr ++ C :: OT csc cx.env C), P := S }
structure CI (G : Gd) (cx : Cx) (sc csc : Scope) (S₁ : Addr → Prop) (h₁ : Heap) (wr : List Addr) (C : Addr) (S : Addr → Prop) (h : Heap) : Prop where
 aft : After wr S₁ h₁ S h
 base : G.B.StaysIn h
 ns : ∃ m, h.Ns C m
 cells : ∀ x c, (ZF csc cx.env C).lookup x = some c → ∃ v, h.IsCell c v
 sloc : ¬ S C
 scell : ∀ x c, (ZF csc cx.env C).lookup x = some c → ¬ S c
 live : ∀ x a, Zr x = false → Var (Uo csc sc cx.env C) h x (.ref a) → ∃ o, h.get? a = some o
theorem B0 {lo : Nat} {l : List (Str × NameKind)} : ∀ {n : Nat} {acc : List (Str × Addr)}, (∀ x c, acc.lookup x = some c → c < n) → (∀ x y c, lo ≤ c → acc.lookup x = some c → acc.lookup y = some c → x = y) → ∀ x y c, lo ≤ c → (cellsFrom n l acc).lookup x = some c → (cellsFrom n l acc).lookup y = some c → x = y := by
 induction l with
 | nil => intro n acc _ h; exact h
 | cons zk r ih =>
  intro n acc hb h
  obtain ⟨z, k⟩ := zk
  unfold cellsFrom
  split
  ·refine ih (fun x c q => ?_) fun x y c hc qx qy => ?_
   ·rw [List.lookup_cons] at q
    cases hx : x == z with
    | true => rw [hx] at q; cases q; exact Nat.lt_succ_self _
    | false => rw [hx] at q; exact Nat.lt_succ_of_lt (hb x c q)
   ·rw [List.lookup_cons] at qx qy
    cases hx : x == z <;> cases hy : y == z <;> rw [hx] at qx <;> rw [hy] at qy
    ·exact h x y c hc qx qy
    ·cases qy; exact absurd (hb x _ qx) (Nat.lt_irrefl _)
    ·cases qx; exact absurd (hb y _ qy) (Nat.lt_irrefl _)
    ·rw [beq_iff_eq.mp hx, beq_iff_eq.mp hy]
  ·exact ih hb h
section
variable {G : Gd} {cx : Cx} {sc csc : Scope} {ρ₁ ρ₀ : AEnv} {S₁ S S' : Addr → Prop} {h₁ h h' : Heap} {wr : List Addr} {C : Addr} {k : Nat}
structure CG (G : Gd) (cx : Cx) (sc csc : Scope) (ρ₁ : AEnv) (S₁ : Addr → Prop) (h₁ : Heap) (wr : List Addr) (C : Addr) (ρ₀ : AEnv) : Prop where
 hsc : cx.env.scope = sc
 r : Rel G cx sc ρ₁ S₁ h₁
 new : ∀ b ∈ wr, cx.h₀.get? b = none ∧ G.B.get? b = none
 hC : h₁.objs.size ≤ C
 ok : UK sc csc = true
 cap : Vz sc csc ρ₁ (Qm (QQ csc sc)) = some ρ₀
theorem CG.nodup (g : CG G cx sc csc ρ₁ S₁ h₁ wr C ρ₀) : (csc.names.map (·.1)).Nodup := by
 have := g.ok
 unfold UK at this
 simp only [Bool.and_eq_true] at this
 exact Yr this.1.2
theorem CG.kind (g : CG G cx sc csc ρ₁ S₁ h₁ wr C ρ₀) : csc.kind = .function := by
 have := g.ok
 unfold UK at this
 simp only [Bool.and_eq_true, beq_iff_eq] at this
 exact this.1.1
theorem CG.free (g : CG G cx sc csc ρ₁ S₁ h₁ wr C ρ₀) {x : Str} (h : (x, .free) ∈ csc.names) : x ∈ Qm sc ∧ (sc.names.lookup x = some .cell ∨ sc.names.lookup x = some .free) := by
 have := g.ok
 unfold UK at this
 simp only [Bool.and_eq_true] at this
 have := List.all_eq_true.mp this.2 _ h
 simpa using this
theorem Ji {α : Type} {l : List (Str × α)} {n : Str} {c : α} (h : l.lookup n = some c) : (n, c) ∈ l := mem_of_lookup h
theorem CG.taken (g : CG G cx sc csc ρ₁ S₁ h₁ wr C ρ₀) {x : Str} (hf : csc.names.lookup x = some .free) : ∃ (c : Addr) (v : Value) (i : Nat) (t : T), cx.env.cells.lookup x = some c ∧ (ZF csc cx.env C).lookup x = some c ∧ h₁.IsCell c (some v) ∧ (Qm sc)[i]? = some x ∧ ρ₁[i]? = some (some t) ∧ GG cx.h₀ S₁ h₁ v t ∧ (cx.env.kindOf x = some .cell ∨ cx.env.kindOf x = some .free) := by
 have hm := Ji hf
 obtain ⟨hv, hk⟩ := g.free hm
 have hx' : x ∈ Qm (QQ csc sc) := by
  have : (x, if (NameKind.free == .free && sc.kind == .function && sc.names.lookup x == some .cell) then NameKind.cell else .free) ∈ (QQ csc sc).names := by
   unfold QQ
   refine List.mem_map.mpr ⟨(x, .free), hm, ?_⟩
   simp only
   split <;> rfl
  unfold Qm
  refine List.mem_map.mpr ⟨_, List.mem_filter.mpr ⟨this, ?_⟩, rfl⟩
  simp only
  split <;> rfl
 obtain ⟨u, hu⟩ := DK g.cap hx'
 obtain ⟨t, rfl⟩ := D8 hu hf
 obtain ⟨_, i, t₀, hi, ht, rfl⟩ := Vd hu
 obtain ⟨v, hvar, tv⟩ := g.r.vars i x t₀ hi ht
 have hkk : cx.env.kindOf x = sc.names.lookup x := by unfold Env.kindOf; rw [g.hsc]
 rcases hvar with ⟨a, _⟩ | ⟨a, c, b, d⟩
 ·rw [hkk] at a
  rcases hk with q | q <;> (rw [q] at a; cases a)
 ·refine ⟨c, v, i, t₀, b, ?_, d, hi, ht, tv, a⟩
  unfold ZF
  rw [UQ (fun kk m q => by
   subst q
   have := J8 g.nodup m
   rw [hf] at this; cases this)]
  exact J4 b (.inl hm)
theorem CG.cellOf (g : CG G cx sc csc ρ₁ S₁ h₁ wr C ρ₀) {x : Str} {c : Addr} (hc : (ZF csc cx.env C).lookup x = some c) : (C < c ∧ (x, .cell) ∈ csc.names) ∨ (csc.names.lookup x = some .free ∧ cx.env.cells.lookup x = some c ∧ c < h₁.objs.size) := by
 unfold ZF at hc
 rcases Jt hc with ⟨q, m⟩ | q
 ·exact .inl ⟨q, m⟩
 ·right
  have hl : cx.env.cells.lookup x = some c := by
   rcases Yh q with q | q
   ·exact q
   ·cases q
  have hm : (x, .free) ∈ csc.names := by
   rcases UD q with q | ⟨_, q⟩
   ·exact q
   ·cases q
  refine ⟨J8 g.nodup hm, hl, ?_⟩
  obtain ⟨v, o, e, _⟩ := g.r.cells x c hl
  exact Heap.lt_size e
theorem CG.notX (g : CG G cx sc csc ρ₁ S₁ h₁ wr C ρ₀) {b : Addr} {o : Obj} (e : h₁.get? b = some o) (hb : b ∉ wr) : b ∉ wr ++ C :: OT csc cx.env C := by
 have hlt := Heap.lt_size e
 have hC := g.hC
 intro m
 rcases List.mem_append.mp m with m | m
 ·exact hb m
 ·rcases List.mem_cons.mp m with rfl | m
  ·exact absurd hlt (Nat.not_lt.mpr hC)
  ·unfold OT at m
   obtain ⟨p, hp, rfl⟩ := List.mem_map.mp m
   have := (List.mem_filter.mp hp).2
   simp only [decide_eq_true_eq] at this
   exact absurd (Nat.lt_of_lt_of_le hlt hC) (Nat.not_lt.mpr (Nat.le_of_lt this))
theorem CG.xNew (g : CG G cx sc csc ρ₁ S₁ h₁ wr C ρ₀) {b : Addr} (hb : b ∈ C :: OT csc cx.env C) : h₁.get? b = none := by
 have hC := g.hC
 refine Heap.get?_none_of_le ?_
 rcases List.mem_cons.mp hb with rfl | m
 ·exact hC
 ·unfold OT at m
  obtain ⟨p, hp, rfl⟩ := List.mem_map.mp m
  have := (List.mem_filter.mp hp).2
  simp only [decide_eq_true_eq] at this
  exact Nat.le_trans hC (Nat.le_of_lt this)
theorem CI.rel (g : CG G cx sc csc ρ₁ S₁ h₁ wr C ρ₀) (ci : CI G cx sc csc S₁ h₁ wr C S h) : Rel G (V1 cx csc sc C wr S h) (QQ csc sc) ρ₀ S h := by
 obtain ⟨ro, same⟩ := g.r.after ci.aft ci.base fun b hb => (g.new b hb).1
 have nd' : (Qm (QQ csc sc)).Nodup := WA (by rw [Ox]; exact g.nodup)
 have kd : ∀ x, csc.names.lookup x = some .free → (Uo csc sc cx.env C).kindOf x = some .cell ∨ (Uo csc sc cx.env C).kindOf x = some .free := fun x hf => by
  show (QQ csc sc).names.lookup x = _ ∨ (QQ csc sc).names.lookup x = _
  rw [Wu, hf, Option.map_some]
  split
  ·exact .inl rfl
  ·exact .inr rfl
 have got : ∀ (j : Nat) (x : Str) (t : T), (Qm (QQ csc sc))[j]? = some x → ρ₀[j]? = some (some t) → csc.names.lookup x = some .free ∧ ∃ (i : Nat) (t₀ : T) (v : Value), (Qm sc)[i]? = some x ∧ ρ₁[i]? = some (some t₀) ∧ t = t₀.weak ∧ Var cx.env h x v ∧ Var (Uo csc sc cx.env C) h x v ∧ GG cx.h₀ S h v t₀ := fun j x t hx ht => by
  have hu := D5 g.cap hx ht
  obtain ⟨hf, i, t₀, hi, ht₀, rfl⟩ := Vd hu
  obtain ⟨c, v', i', t', hc, hcc, hcell, hi', ht', tv', hkk⟩ := g.taken hf
  obtain ⟨v, hv, tv⟩ := ro.vars i x t₀ hi ht₀
  have : Var cx.env h x v' := .inr ⟨hkk, c, hc, ci.aft.cell hcell⟩
  cases Var.inj hv this
  exact ⟨hf, i, t₀, _, hi, ht₀, rfl, hv, .inr ⟨kd x hf, c, hcc, ci.aft.cell hcell⟩, tv⟩
 refine { base := ci.base, keep := fun b o e => ⟨o.slots, (Fv e).2, fun _ => rfl⟩, ff := ro.ff, ns := ci.ns, cells := ci.cells, sdom := ci.aft.sdom, sok := fun b q => .inl q, sloc := ci.sloc, scell := ci.scell, live := ci.live, clean := fun j x m d hx hj => ?_, hok := ro.hok, vars := fun j x t hx ht => ?_, inj := fun j l x y m m' d d' v hx hy hj hl a b => ?_, dok := fun j x m ks ds hx hj hvx => ?_ }
 rotate_right
 ·obtain ⟨hf, _⟩ := got j x _ hx hj
  obtain ⟨c, v', i', t', hc, hcc, hcell, hi', ht', tv', hkk⟩ := g.taken hf
  cases Var.inj hvx (.inr ⟨kd x hf, c, hcc, ci.aft.cell hcell⟩)
  have : ∃ o, h₁.get? C = some o := by
   cases t' with
   | sh d => exact RV.live tv' _ rfl
   | ow m d => obtain ⟨a, e, _, ow, _⟩ := tv'; cases e; obtain ⟨o, ho, _⟩ := ow.live; exact ⟨o, ho⟩
  obtain ⟨o, ho⟩ := this
  exact absurd (Heap.lt_size ho) (Nat.not_lt.mpr g.hC)
 ·obtain ⟨_, i, t₀, v, hi, ht₀, e, _⟩ := got j x _ hx hj
  cases t₀ with
  | sh d => cases e
  | ow m₀ d₀ => exact g.r.clean i x m₀ d₀ hi ht₀
 ·obtain ⟨_, i, t₀, v, hi, ht₀, rfl, _, hv, tv⟩ := got j x t hx ht
  refine ⟨v, hv, ?_⟩
  cases t₀ with
  | sh d => exact tv
  | ow m d => obtain ⟨a, rfl, n1, ow, _⟩ := tv; exact ⟨a, rfl, n1, ow, fun q => by cases q⟩
 ·obtain ⟨_, i, t₀, v₁, hi, ht₀, e₁, hv₁, hw₁, _⟩ := got j x _ hx hj
  obtain ⟨_, i', t₀', v₂, hi', ht₀', e₂, hv₂, hw₂, _⟩ := got l y _ hy hl
  cases Var.inj a hw₁
  cases Var.inj b hw₂
  have : i = i' := by
   cases t₀ with
   | sh d => cases e₁
   | ow m₀ d₀ =>
    cases t₀' with
    | sh d => cases e₂
    | ow m₁ d₁ => exact ro.inj i i' x y m₀ m₁ d₀ d₁ _ hi hi' ht₀ ht₀' hv₁ hv₂
  subst this
  rw [hi] at hi'
  cases hi'
  obtain ⟨p1, e1⟩ := List.getElem?_eq_some_iff.mp hx
  obtain ⟨p2, e2⟩ := List.getElem?_eq_some_iff.mp hy
  exact (List.getElem_inj nd').mp (e1.trans e2.symm)
theorem CI.ok (g : CG G cx sc csc ρ₁ S₁ h₁ wr C ρ₀) (ok : CxOk G cx sc k) : CxOk G (V1 cx csc sc C wr S h) (QQ csc sc) k := by
 obtain ⟨env, outer, e1, e2⟩ := ok.top
 exact { hsc := rfl, hk := g.kind, hg := ok.hg, hb := ok.hb, fr := ok.fr, top := ⟨env, outer, e1, e2⟩, hd := ok.hd, room := ok.room, nodup := WA (by rw [Ox]; exact g.nodup) }
theorem CI.fn (g : CG G cx sc csc ρ₁ S₁ h₁ wr C ρ₀) (ci : CI G cx sc csc S₁ h₁ wr C S h) : FnCx G (V1 cx csc sc C wr S h) where
 bh := fun b o e => by
  show (U2 h _).get? b = some o
  rw [Yo, if_neg (g.notX (g.r.base b o e) fun m => by rw [(g.new b m).2] at e; cases e)]
  exact ci.base b o e
 lnew := by
  show (U2 h _).get? C = none
  rw [Yo, if_pos (List.mem_append.mpr (.inr (.head _)))]
 cap := fun x y c hx hy hn => by
  have own : C < c := by
   rcases g.cellOf hx with ⟨q, _⟩ | ⟨hf, hl, hlt⟩
   ·exact q
   ·exfalso
    obtain ⟨v, hcell⟩ := g.r.cells x c hl
    have hcell0 := hcell
    obtain ⟨o, e, hd⟩ := hcell0
    have : (U2 h (wr ++ C :: OT csc cx.env C)).get? c = none := hn
    rw [Yo, if_neg (g.notX e fun m => by obtain ⟨o', e', q⟩ := ci.aft.shape c m; rw [e] at e'; cases e'; exact JN hd q)] at this
    obtain ⟨o', e', _⟩ := ci.aft.cell hcell
    rw [this] at e'; cases e'
  refine B0 (lo := C + 1) (fun z c' q => ?_) (fun z z' c' hc' q q' => ?_) x y c own hx hy
  ·rcases Yh q with q | q
   ·obtain ⟨v, o, e, _⟩ := g.r.cells z c' q
    exact Nat.lt_succ_of_lt (Nat.lt_of_lt_of_le (Heap.lt_size e) g.hC)
   ·cases q
  ·exfalso
   rcases Yh q with q | q
   ·obtain ⟨v, o, e, _⟩ := g.r.cells z c' q
    exact absurd (Nat.lt_of_lt_of_le (Heap.lt_size e) g.hC) (Nat.not_lt.mpr (Nat.le_of_succ_le hc'))
   ·cases q
 loc := fun x c q => by
  show c ≠ C
  rcases g.cellOf q with ⟨q, _⟩ | ⟨_, _, q⟩
  ·exact Nat.ne_of_gt q
  ·exact Nat.ne_of_lt (Nat.lt_of_lt_of_le q g.hC)
theorem CI.own (g : CG G cx sc csc ρ₁ S₁ h₁ wr C ρ₀) {x : Str} (hx : csc.names.lookup x = some .local ∨ csc.names.lookup x = some .cell) : W2 (V1 cx csc sc C wr S h) (QQ csc sc) x := by
 unfold W2
 rw [Wu]
 rcases hx with q | q
 ·rw [q]; exact .inl rfl
 ·rw [q]
  refine .inr ⟨rfl, ?_⟩
  obtain ⟨c, hc⟩ := Option.isSome_iff_exists.mp (Jr csc.names (C + 1) (Un cx.env csc.names []) (.inl q))
  refine ⟨c, hc, ?_⟩
  show (U2 h _).get? c = none
  rw [Yo, if_pos]
  rcases g.cellOf (x := x) hc with ⟨hlt, _⟩ | ⟨hf, _⟩
  ·refine List.mem_append.mpr (.inr (.tail _ ?_))
   unfold OT
   exact List.mem_map.mpr ⟨(x, c), List.mem_filter.mpr ⟨Ji hc, by simpa using hlt⟩, rfl⟩
  ·rw [q] at hf; cases hf
set_option tactic.hygienic true in
theorem CI.of_rel {ρ' : AEnv} (g : CG G cx sc csc ρ₁ S₁ h₁ wr C ρ₀) (ci : CI G cx sc csc S₁ h₁ wr C S h) (r : Rel G (V1 cx csc sc C wr S h) (QQ csc sc) ρ' S' h') (sub : ∀ b, S b → S' b) (dom : ∀ b ∈ wr, ∃ o, h'.get? b = some o) : CI G cx sc csc S₁ h₁ wr C S' h' where
 aft := {
  keep := fun b o hb e => by
   obtain ⟨sl, e₁, k₁⟩ := ci.aft.keep b o hb e
   have : (U2 h (wr ++ C :: OT csc cx.env C)).get? b = some { o with slots := sl } := by rw [Yo, if_neg (g.notX e hb)]; exact e₁
   obtain ⟨sl', e₂, k₂⟩ := r.keep b _ this
   exact ⟨sl', e₂, fun hn => (k₂ hn).trans (k₁ hn)⟩
  dom := dom
  shape := ci.aft.shape
  sub := fun b q => sub b (ci.aft.sub b q)
  new := fun b q => by
   rcases r.sok b q with q | q
   ·exact ci.aft.new b q
   ·have q : (U2 h (wr ++ C :: OT csc cx.env C)).get? b = none := q
    rw [Yo] at q
    split at q
    ·rename_i m
     rcases List.mem_append.mp m with m | m
     ·exact .inr (.inl m)
     ·exact .inr (.inr (g.xNew m))
    ·right; right
     cases q' : h₁.get? b with
     | none => rfl
     | some o => obtain ⟨o', e'⟩ := ci.aft.domAll q'; rw [q] at e'; cases e'
  sdom := r.sdom }
 base := r.base
 ns := r.ns
 cells := r.cells
 sloc := r.sloc
 scell := r.scell
 live := r.live
theorem CI.append {D : Addr} {oD oD' : Obj} {vs : Array Value} {n : Nat} (g : CG G cx sc csc ρ₁ S₁ h₁ wr C ρ₀) (ci : CI G cx sc csc S₁ h₁ wr C S h) (eD : h.get? D = some oD) (hd : oD.data = .seq vs n) (hD : h₁.get? D = none) (kk : Heap.SameBut D h h') (e' : h'.get? D = some oD') : CI G cx sc csc S₁ h₁ wr C S h' := by
 have dom : ∀ b o, h.get? b = some o → ∃ o', h'.get? b = some o' := fun b o e => by
  by_cases hb : b = D
  ·subst hb; exact ⟨_, e'⟩
  ·exact ⟨o, (kk.2 b hb).trans e⟩
 have hC : C ≠ D := by
  rintro rfl
  obtain ⟨m, o, es, ep, q, hd', _⟩ := ci.ns
  rw [eD] at q; cases q; rw [hd] at hd'; cases hd'
 have hcell : ∀ x c, (ZF csc cx.env C).lookup x = some c → c ≠ D := fun x c q => by
  rintro rfl
  obtain ⟨v, o, q, hd'⟩ := ci.cells x _ q
  rw [eD] at q; cases q; rw [hd] at hd'; cases hd'
 refine { aft := { ci.aft with keep := fun b o hb e => ?_, dom := fun b hb => ?_, sdom := fun b q => ?_ }, base := fun b o q => (kk.2 b ?_).trans (ci.base b o q), ns := ?_, cells := fun x c q => ?_, sloc := ci.sloc, scell := ci.scell, live := fun x a hdx q => ?_ }
 ·obtain ⟨sl, q, k₁⟩ := ci.aft.keep b o hb e
  exact ⟨sl, (kk.2 b (by rintro rfl; rw [hD] at e; cases e)).trans q, k₁⟩
 ·obtain ⟨o, q⟩ := ci.aft.dom b hb
  exact dom b o q
 ·obtain ⟨o, q⟩ := ci.aft.sdom b q
  exact dom b o q
 ·rintro rfl
  rw [g.r.base _ _ q] at hD; cases hD
 ·obtain ⟨m, n⟩ := ci.ns
  exact ⟨m, n.sameBut kk hC⟩
 ·obtain ⟨v, n⟩ := ci.cells x c q
  exact ⟨v, n.sameBut kk (hcell x c q)⟩
 ·have : Var (Uo csc sc cx.env C) h x (.ref a) := by
   rcases q with ⟨a1, m₁, b, c⟩ | ⟨a1, c, b, d⟩
   ·obtain ⟨m₀, n₀⟩ := ci.ns
    exact .inl ⟨a1, m₀, n₀, by rw [(n₀.sameBut kk hC).agree b x]; exact c⟩
   ·obtain ⟨w₀, n₀⟩ := ci.cells x c b
    exact .inr ⟨a1, c, b, by rw [IsCell.inj d (n₀.sameBut kk (hcell x c b))]; exact n₀⟩
  obtain ⟨o, e⟩ := ci.live x a hdx this
  exact dom a o e
end
end Mine
end

section
set_option Elab.async false
set_option maxRecDepth 100000
namespace Mine
open PySem PyProof.Rows
theorem Dc {prog : Program} {w : World} {A : Around} {R : Result → Shared → Prop} {s : Shared} {elt target iter : Expr} {ifs : List Expr} {scope : Scope} {pos : Pos} {it acc : Value} {env : Env} (I : Nat → Shared → Prop)
  (turn : ∀ n s, I n s → wpAny (model prog w) A (pyNext it) (fun r s₁ => match r with
   | none => R (.ok .next) s₁
   | some v => wpAny (model prog w) A (letOwnedTupleGo target it v) (fun _ s₁' => wpAny (model prog w) A (assign target env v) (fun _ s₂ =>
     wpAny (model prog w) A (forIn ifs true fun c r => if r = true then do let ok ← isTrue c env (eval c env); pure (ForInStep.yield ok) else pure (ForInStep.yield r)) (fun ok s₃ =>
      if ok = true then wpAny (model prog w) A (eval elt env) (fun x s₄ =>
       wpAny (model prog w) A (call (.builtin "list.append") [acc, x]) (fun _ s₅ => ∃ m, m < n ∧ I m s₅) (notedBy (model prog w) A env fun e s' => R (.error e) s') s₄) (notedBy (model prog w) A env fun e s' => R (.error e) s') s₃
      else ∃ m, m < n ∧ I m s₃) (notedBy (model prog w) A env fun e s' => R (.error e) s') s₂) (notedBy (model prog w) A env fun e s' => R (.error e) s') s₁') (notedBy (model prog w) A env fun e s' => R (.error e) s') s₁) (notedBy (model prog w) A env fun e s' => R (.error e) s') s)
  (n : Nat) (h : I n s) : codeAny (model prog w) A (.compLoop (.ListComp elt [⟨target, iter, ifs, 0⟩] scope pos) 0 it acc env) R s := by
 refine codeAny_loop rfl I (fun n s hI => ?_) n h
 show wpAny _ A ((compTurn (.ListComp elt [⟨target, iter, ifs, 0⟩] scope pos) 0 it acc env).onRaise (fun x => do noteFrame x env; theTreesLotGoes x)) _ _ s
 refine wpAny_noted ?_
 rw [compTurn_list]
 refine wpAny_bind (wpAny_standAt (wpAny_bind (wpAny_mono (turn n s hI) (fun r s₁ h₁ => ?_) fun _ _ h' => h')))
 cases r with
 | none => exact wpAny_pure h₁
 | some v =>
  refine wpAny_bind (wpAny_mono h₁ (fun _ s₁' h₁' => ?_) fun _ _ h' => h')
  refine wpAny_bind (wpAny_mono h₁' (fun _ s₂ h₂ => wpAny_bind (wpAny_mono h₂ (fun ok s₃ h₃ => ?_) fun _ _ h' => h')) fun _ _ h' => h')
  cases ok with
  | false => exact wpAny_pure ⟨rfl, h₃⟩
  | true =>
   exact wpAny_bind (wpAny_bind (wpAny_mono h₃ (fun x s₄ h₄ => wpAny_bind (wpAny_mono h₄ (fun _ s₅ h₅ => wpAny_pure (wpAny_pure ⟨rfl, h₅⟩)) fun _ _ h' => h')) fun _ _ h' => h'))
noncomputable def Vg (G : Gd) (k : Nat) (sc : Scope) (ifs : List Expr) (f : AEnv → Res Bool) : Prop :=
 ∀ cx, CxOk G cx sc k → ∀ ρ S s, Rel G cx sc ρ S s.heap → QD G cx sc true (forIn ifs true fun c r => if r = true then do let ok ← isTrue c cx.env (eval c cx.env); pure (ForInStep.yield ok) else pure (ForInStep.yield r)) S s (fun _ _ a b => a = b) (f ρ)
noncomputable def Ux : AEnv → Res Bool := fun ρ => .ok true ρ
theorem Y4 {G : Gd} {k : Nat} {sc : Scope} : Vg G k sc [] Ux := fun _ _ _ _ _ r => QD.pure r rfl
theorem Cs {G : Gd} {k : Nat} {sc : Scope} {c : Expr} {f : AEnv → Res Bool} (h : Kk G k sc c f) : Vg G k sc [c] f := fun cx ok ρ S s r Q E out => wpAny_tests_one (h cx ok ρ S s r Q E out)
noncomputable def Yl (b : D → AEnv → Option AEnv) (t : AEnv → Res Bool) (f : AEnv → Res T) (ρ₀ : AEnv) : List D → List D → Option (List D)
 | [], acc => some acc
 | d :: ds, acc => match b d ρ₀ with
  | none => none
  | some ρ₁ => match t ρ₁ with
   | .ok true ρ₂ => (match f ρ₂ with
    | .ok v _ => if acc.length ≤ 1000000 then Yl b t f ρ₀ ds (acc ++ [v.val]) else none
    | _ => none)
   | .ok false _ => Yl b t f ρ₀ ds acc
   | _ => none
theorem After.ext {X : List Addr} {S₀ S S' : Addr → Prop} {h₀ h h' : Heap} (k : After X S h S' h') (x : Ext S₀ h₀ S h) (new : ∀ b ∈ X, h₀.get? b = none) : Ext S₀ h₀ S' h' :=
 ⟨fun b q => k.sub b (x.sub b q), fun b o e q => by
  obtain ⟨sl, e₁, k₁⟩ := x.keep b o e q
  obtain ⟨sl', e₂, k₂⟩ := k.keep b _ (fun m => by rw [new b m] at e; cases e) e₁
  exact ⟨sl', e₂, fun hn => (k₂ hn).trans (k₁ hn)⟩, fun b o e => by
  obtain ⟨o', e'⟩ := x.dom b o e
  exact k.domAll e'⟩
inductive CInv (G : Gd) (cx : Cx) (sc csc : Scope) (S₁ : Addr → Prop) (h₁ : Heap) (wr : List Addr) (C L : Addr) (St : Nat → (Addr → Prop) → Heap → Prop) (cn : List D → List D → Option (List D)) (ds out : List D) (s : Shared) : Nat → Shared → Prop
 | mk {i : Nat} {S' : Addr → Prop} {h' : Heap} {tk : Nat} {acc : List D} {vs : Array Value} {n : Nat} : i ≤ ds.length → CI G cx sc csc S₁ h₁ wr C S' h' → St i S' h' → h'.get? L = some { cls := .type "list", data := .seq vs n } → RVs S' h' vs.toList acc → ¬ S' L → cn (ds.drop i) acc = some out → CInv G cx sc csc S₁ h₁ wr C L St cn ds out s (ds.length + 1 - i) { s with heap := h', toks := tk }
section
variable {G : Gd} {cx : Cx} {sc csc : Scope} {ρ₁ ρ₀ : AEnv} {S₁ S : Addr → Prop} {h₁ : Heap} {wr : List Addr} {C L : Addr} {k : Nat}
set_option tactic.hygienic true in
theorem Go {tg iter elt : Expr} {ifs : List Expr} {pos : Pos} {I : Addr} {St : Nat → (Addr → Prop) → Heap → Prop} {ds out : List D} {xs : List Str} {b : D → AEnv → Option AEnv} {t : AEnv → Res Bool} {f : AEnv → Res T} {R : Result → Shared → Prop} {s : Shared} {n : Nat}
  (g : CG G cx sc csc ρ₁ S₁ h₁ wr C ρ₀) (ok : CxOk G cx sc k) (it : ItK G cx.A tg I wr St ds) (ha : Vr G (QQ csc sc) tg xs b) (hxs : ∀ x ∈ xs, csc.names.lookup x = some .local ∨ csc.names.lookup x = some .cell)
  (ht : Vg G k (QQ csc sc) ifs t) (he : Sim G k (QQ csc sc) elt f) (ci : CI G cx sc csc S₁ h₁ wr C S s.heap) (eD : s.heap.get? L = some { cls := .type "list", data := .seq #[] n }) (hD : h₁.get? L = none) (hLC : L < C) (hS : ¬ S L) (st : St 0 S s.heap)
  (hni : ∀ v, cx.A.handled = some v → ∀ b ∈ wr, v ≠ .ref b) (hc : Yl b t f ρ₀ ds [] = some out)
  (fin : ∀ S' h' tk, CI G cx sc csc S₁ h₁ wr C S' h' → ZJ S' h' L (.list out) → ¬ S' L → R (.ok .next) { s with heap := h', toks := tk }) :
  codeAny G.M cx.A (.compLoop (.ListComp elt [⟨tg, iter, ifs, 0⟩] csc pos) 0 (.ref I) (.ref L) (Uo csc sc cx.env C)) R s := by
 have hLX : L ∉ wr ++ C :: OT csc cx.env C := fun m => by
  rcases List.mem_append.mp m with m | m
  ·obtain ⟨o, e, _⟩ := ci.aft.shape L m; rw [hD] at e; cases e
  ·rcases List.mem_cons.mp m with rfl | m
   ·exact absurd hLC (Nat.lt_irrefl _)
   ·unfold OT at m
    obtain ⟨p, hp, rfl⟩ := List.mem_map.mp m
    have := (List.mem_filter.mp hp).2
    simp only [decide_eq_true_eq] at this
    exact absurd hLC (Nat.not_lt.mpr (Nat.le_of_lt this))
 have hLw : L ∉ wr := fun m => hLX (List.mem_append.mpr (.inl m))
 obtain ⟨Inv, hI, hC⟩ : ∃ Inv : Nat → Shared → Prop, (∀ m s', CInv G cx sc csc S₁ h₁ wr C L St (Yl b t f ρ₀) ds out s m s' → Inv m s') ∧ ∀ m s', Inv m s' → CInv G cx sc csc S₁ h₁ wr C L St (Yl b t f ρ₀) ds out s m s' := ⟨_, fun _ _ q => q, fun _ _ q => q⟩
 refine Dc Inv ?_ (ds.length + 1) (hI _ _ (.mk (i := 0) (tk := s.toks) (acc := []) (vs := #[]) (Nat.zero_le _) ci st eD .nil hS (by rw [List.drop_zero]; exact hc)))
 generalize (notedBy G.M cx.A (Uo csc sc cx.env C) fun e s' => R (.error e) s') = EN
 intro m s' hinv
 cases hC m s' hinv with
 | mk hi ci' st' eL racc hSL hcn =>
 rename_i i S' h' tk acc vs n'
 have r' := ci'.rel g
 have new' : ∀ b ∈ wr, (V1 cx csc sc C wr S' h').h₀.get? b = none ∧ G.B.get? b = none := fun b hb => ⟨by
  show (U2 h' _).get? b = none
  rw [Yo, if_pos (List.mem_append.mpr (.inl hb))], (g.new b hb).2⟩
 by_cases hlt : i < ds.length
 ·have hd : ds[i]? = some ds[i] := List.getElem?_eq_getElem hlt
  rw [Oi hd, Yl] at hcn
  split at hcn
  ·cases hcn
  rename_i ρ₂ hb
  refine wpAny_mono (it.item i S' { s with heap := h', toks := tk } ds[i] (fun v s₂ => wpAny G.M cx.A (assign tg (Uo csc sc cx.env C) v) (fun _ s₂ =>
     wpAny G.M cx.A (forIn ifs true fun c r => if r = true then do let ok ← isTrue c (Uo csc sc cx.env C) (eval c (Uo csc sc cx.env C)); pure (ForInStep.yield ok) else pure (ForInStep.yield r)) (fun ok s₃ =>
      if ok = true then wpAny G.M cx.A (eval elt (Uo csc sc cx.env C)) (fun x s₄ =>
       wpAny G.M cx.A (call (.builtin "list.append") [.ref L, x]) (fun _ s₅ => ∃ m, m < ds.length + 1 - i ∧ Inv m s₅) EN s₄) EN s₃
      else ∃ m, m < ds.length + 1 - i ∧ Inv m s₃) EN s₂) EN s₂) _ EN hd st' fun v h₂ t₂ rv st₂ kb => ?_) (fun rr s₁ hh => by
   obtain ⟨v, rfl, hh⟩ := hh
   exact hh) fun _ _ e => e
  obtain ⟨r₂, v₂⟩ := r'.aside (it.shape i S' h' st') new' kb
  have ok' : CxOk G (V1 cx csc sc C wr S' h') (QQ csc sc) k := CI.ok g ok
  refine ha (V1 cx csc sc C wr S' h') k ok' (CI.fn g ci') (fun x hx => CI.own g (hxs x hx)) ρ₀ S' { s with heap := h₂, toks := t₂ } v ds[i] ρ₂ r₂ rv hb _ _ ?_
  intro _ h₃ t₃ S₃ r₃ _ x₃ _
  have st₃ := it.ext _ _ _ _ _ st₂ x₃
  have racc₃ : RVs S₃ h₃ vs.toList acc := (racc.aside (it.shape i S' h' st') kb).ext x₃
  refine ht (V1 cx csc sc C wr S' h') ok' ρ₂ S₃ { s with heap := h₃, toks := t₃ } r₃ _ _ ?_
  have done : ∀ {ρ' S'' h''}, Rel G (V1 cx csc sc C wr S' h') (QQ csc sc) ρ' S'' h'' → (∀ b, S' b → S'' b) → St (i + 1) S'' h'' → CI G cx sc csc S₁ h₁ wr C S'' h'' ∧ h''.get? L = some { cls := .type "list", data := .seq vs n' } ∧ ¬ S'' L := fun {ρ' S'' h''} r sub st => by
   refine ⟨CI.of_rel g ci' r sub fun b hb => let ⟨o, e, _⟩ := it.shape _ _ _ st b hb; ⟨o, e⟩, ?_, fun q => ?_⟩
   ·have : (U2 h' (wr ++ C :: OT csc cx.env C)).get? L = some { cls := .type "list", data := .seq vs n' } := by rw [Yo, if_neg hLX]; exact eL
    exact r.keep.exact this (.seq rfl)
   ·rcases r.sok L q with q | q
    ·exact hSL q
    ·have q : (U2 h' (wr ++ C :: OT csc cx.env C)).get? L = none := q
     rw [Yo, if_neg hLX, eL] at q; cases q
  split at hcn
  ·rename_i ρ₃ htv
   rw [htv]
   intro a h₄ t₄ S₄ r₄ j₄ x₄ _
   subst j₄
   simp only [if_true]
   have st₄ := it.ext _ _ _ _ _ st₃ x₄
   split at hcn
   ·rename_i v' ρ₄ hfv
    split at hcn
    ·rename_i hlen
     refine (he (V1 cx csc sc C wr S' h') ok' ρ₃ S₄ { s with heap := h₄, toks := t₄ } r₄).shared _ _ ?_
     rw [hfv]
     intro y h₅ t₅ S₅ r₅ j₅ x₅ _
     have st₅ := it.ext _ _ _ _ _ st₄ x₅
     have racc₅ : RVs S₅ h₅ vs.toList acc := (racc₃.ext x₄).ext x₅
     obtain ⟨ci₅, eL₅, hS₅⟩ := done r₅ (fun b q => x₅.sub b (x₄.sub b (x₃.sub b q))) st₅
     have hvl : vs.size = acc.length := by rw [← racc.length]; simp
     refine call_meets F.slot_list_append ⟨_, eL₅, rfl⟩ F.entry_list_append (F.args_list_append_2 _ _) (list_append L vs n' y (by rw [hvl, sizeLine_eq]; exact omB hlen)) ⟨eL₅, ?_⟩
     obtain ⟨m', hm'⟩ := YV (fun xs => xs.push y) eL₅
     have sb : Heap.SameBut L h₅ (h₅.update L (Obj.mapSeq fun xs => xs.push y)) := Heap.SameBut.update ..
     have x₆ : Ext S₅ h₅ S₅ (h₅.update L (Obj.mapSeq fun xs => xs.push y)) := RV.but eL₅ Vc hS₅ (fun b o hb eb => (sb.2 b hb).trans eb) ⟨_, hm'⟩
     refine ⟨ds.length + 1 - (i + 1), by omega, hI _ _ (.mk (i := i + 1) (tk := t₅) (acc := acc ++ [v'.val]) (vs := vs.push y) hlt (CI.append g ci₅ eL₅ rfl hD sb hm') (it.ext _ _ _ _ _ st₅ x₆) hm' ?_ hS₅ hcn)⟩
     rw [Array.toList_push]
     exact RVs.append (.cons (RV.ext x₆ j₅) .nil) (racc₅.ext x₆)
    ·cases hcn
   ·cases hcn
  ·rename_i ρ₃ htv
   rw [htv]
   intro a h₄ t₄ S₄ r₄ j₄ x₄ _
   subst j₄
   simp only [Bool.false_eq_true, if_false]
   have st₄ := it.ext _ _ _ _ _ st₃ x₄
   obtain ⟨ci₄, eL₄, hS₄⟩ := done r₄ (fun b q => x₄.sub b (x₃.sub b q)) st₄
   exact ⟨ds.length + 1 - (i + 1), by lia, hI _ _ (.mk (i := i + 1) (tk := t₄) hlt ci₄ st₄ eL₄ (racc₃.ext x₄) hS₄ hcn)⟩
  ·cases hcn
 ·have hie : i = ds.length := by exact Nat.le_antisymm hi (Nat.le_of_not_lt hlt)
  subst hie
  rw [List.drop_length, Yl] at hcn
  cases hcn
  refine it.done S' { s with heap := h', toks := tk } _ _ st' r'.hOk hni fun h₂ t₂ kb => ?_
  have sh := it.shape _ S' h' st'
  obtain ⟨r₂, v₂⟩ := r'.aside sh new' kb
  refine fin S' h₂ t₂ (CI.of_rel g ci' r₂ (fun _ q => q) kb.2) ⟨vs, n', kb.1 L _ hLw eL, racc.aside sh kb⟩ hSL
end
end Mine
end

section
set_option Elab.async false
set_option maxRecDepth 100000
namespace Mine
open PySem PyProof.Rows
set_option tactic.hygienic true in
theorem Uc : ∀ {l : List (Str × NameKind)} {h : Heap} {acc : List (Str × Addr)} {x : Str} {c : Addr}, (cellsFrom h.objs.size l acc).lookup x = some c → (∃ c', acc.lookup x = some c' ∧ c' = c) ∨ ((pushCells h l).IsCell c none ∧ h.objs.size ≤ c)
 | [], _, _, _, _, q => .inl ⟨_, q, rfl⟩
 | (y, k) :: r, h, acc, x, c, q => by
  unfold cellsFrom at q
  unfold pushCells
  split at q
  ·rename_i hk
   rw [if_pos hk]
   rw [show h.objs.size + 1 = (h.push { cls := .type "cell", data := .cell none }).objs.size from (Heap.size_push ..).symm] at q
   rcases Uc q with ⟨c', q', rfl⟩ | ⟨q', hl⟩
   ·rw [List.lookup_cons] at q'
    cases hx : x == y with
    | true =>
     rw [hx] at q'; cases q'
     exact .inr ⟨⟨_, pushCells_keeps _ _ _ _ (Heap.get?_push_size _ rfl), rfl⟩, Nat.le_refl _⟩
    | false => rw [hx] at q'; exact .inl ⟨_, q', rfl⟩
   ·rw [Heap.size_push] at hl
    exact .inr ⟨q', Nat.le_of_succ_le hl⟩
  ·rename_i hk
   rw [if_neg hk]
   exact Uc q
section
variable {G : Gd} {cx : Cx} {sc csc : Scope} {ρ₁ ρ₀ : AEnv} {S₁ : Addr → Prop} {h₁ : Heap} {wr : List Addr} {k : Nat}
noncomputable def Uq (h₁ : Heap) (csc : Scope) : Heap := pushCells ((h₁.push { cls := .type "list", data := .seq ([] : List Value).toArray }).push { cls := .type "dict", data := .dict #[] }) csc.names
theorem X7 {b : Addr} {o : Obj} (e : h₁.get? b = some o) : (Uq h₁ csc).get? b = some o := pushCells_keeps _ _ _ _ (Heap.get?_push_of_some _ (Heap.get?_push_of_some _ e))
theorem CI.init (g : CG G cx sc csc ρ₁ S₁ h₁ wr (h₁.objs.size + 1) ρ₀) (sh : ∀ b ∈ wr, ∃ o, h₁.get? b = some o ∧ Ye o) : CI G cx sc csc S₁ h₁ wr (h₁.objs.size + 1) S₁ (Uq h₁ csc) := by
 have hs : ((h₁.push { cls := .type "list", data := .seq ([] : List Value).toArray }).push { cls := .type "dict", data := .dict #[] }).objs.size = h₁.objs.size + 1 + 1 := by rw [Heap.size_push, Heap.size_push]
 have ns : (Uq h₁ csc).Ns (h₁.objs.size + 1) fun _ => none := by
  have := (Heap.Ns.new (h₁.push { cls := .type "list", data := .seq ([] : List Value).toArray }) (.type "dict")).keeps (pushCells_keeps csc.names _)
  rw [Heap.size_push] at this
  exact this
 have cell : ∀ x c, (ZF csc cx.env (h₁.objs.size + 1)).lookup x = some c → (csc.names.lookup x = some .free ∧ cx.env.cells.lookup x = some c) ∨ ((Uq h₁ csc).IsCell c none ∧ h₁.objs.size + 2 ≤ c) := fun x c q => by
  rcases g.cellOf q with ⟨hc, _⟩ | ⟨a, b, _⟩
  ·unfold ZF at q
   rw [← hs] at q
   rcases Uc q with ⟨c', q', rfl⟩ | ⟨q', hl⟩
   ·rcases Yh q' with q' | q'
    ·obtain ⟨v, o, e, _⟩ := g.r.cells x c' q'
     exact absurd (Heap.lt_size e) (Nat.not_lt.mpr (Nat.le_of_lt (Nat.lt_of_succ_lt hc)))
    ·cases q'
   ·rw [hs] at hl; exact .inr ⟨q', hl⟩
  ·exact .inl ⟨a, b⟩
 refine { aft := ⟨fun b o _ e => ⟨o.slots, X7 e, fun _ => rfl⟩, fun b hb => let ⟨o, e, _⟩ := sh b hb; ⟨o, X7 e⟩, sh, fun _ q => q, fun b q => .inl q, fun b q => let ⟨o, e⟩ := g.r.sdom b q; ⟨o, X7 e⟩⟩, base := fun b o e => X7 (g.r.base b o e), ns := ⟨_, ns⟩, cells := fun x c q => ?_, sloc := fun q => ?_, scell := fun x c q q' => ?_, live := fun x a hd q => ?_ }
 ·rcases cell x c q with ⟨_, q⟩ | ⟨q, _⟩
  ·obtain ⟨v, o, e, hd⟩ := g.r.cells x c q
   exact ⟨v, o, X7 e, hd⟩
  ·exact ⟨_, q⟩
 ·obtain ⟨o, e⟩ := g.r.sdom _ q
  exact absurd (Heap.lt_size e) (Nat.not_lt.mpr (Nat.le_succ _))
 ·rcases cell x c q with ⟨_, q⟩ | ⟨_, hl⟩
  ·exact g.r.scell x c q q'
  ·obtain ⟨o, e⟩ := g.r.sdom _ q'
   exact absurd (Heap.lt_size e) (Nat.not_lt.mpr (Nat.le_of_succ_le (Nat.le_of_succ_le hl)))
 ·rcases q with ⟨a1, m, n, e⟩ | ⟨a1, c, q, n⟩
  ·have := ns.agree n x; rw [e] at this; cases this
  ·rcases cell x c q with ⟨hf, hl⟩ | ⟨q', _⟩
   ·obtain ⟨v, n₀⟩ := g.r.cells x c hl
    have n₁ : (Uq h₁ csc).IsCell c v := n₀.keeps fun b o e => X7 e
    cases IsCell.inj n n₁
    obtain ⟨_, hk⟩ := g.free (Ji hf)
    have hkk : cx.env.kindOf x = sc.names.lookup x := by unfold Env.kindOf; rw [g.hsc]
    obtain ⟨o, e⟩ := g.r.live x a hd (.inr ⟨by rw [hkk]; exact hk, c, hl, n₀⟩)
    exact ⟨o, X7 e⟩
   ·cases IsCell.inj n q'
end
noncomputable def Oa (sc csc : Scope) (src : AEnv → Res (List D)) (b : D → AEnv → Option AEnv) (t : AEnv → Res Bool) (f : AEnv → Res T) : AEnv → Res T := fun ρ => match Vz sc csc ρ (Qm (QQ csc sc)) with
 | none => .stuck
 | some _ => match src ρ with
  | .ok ds ρ₁ => (match Vz sc csc ρ₁ (Qm (QQ csc sc)) with
   | some ρ₀ => (match Yl b t f ρ₀ ds [] with
    | some out => .ok (.ow true (.list out)) ρ₁
    | none => .stuck)
   | none => .stuck)
  | _ => .stuck
set_option tactic.hygienic true in
theorem GT {sc csc : Scope} {src : AEnv → Res (List D)} {b : D → AEnv → Option AEnv} {t : AEnv → Res Bool} {f : AEnv → Res T} {ρ : AEnv} (h : Oa sc csc src b t f ρ ≠ .stuck) :
  ∃ ρ' ds ρ₁ ρ₀ out, Vz sc csc ρ (Qm (QQ csc sc)) = some ρ' ∧ src ρ = .ok ds ρ₁ ∧ Vz sc csc ρ₁ (Qm (QQ csc sc)) = some ρ₀ ∧ Yl b t f ρ₀ ds [] = some out ∧ Oa sc csc src b t f ρ = .ok (.ow true (.list out)) ρ₁ := by
 unfold Oa at h ⊢
 split at h
 ·exact absurd rfl h
 ·rename_i ρ' h1
  split at h
  ·rename_i ds ρ₁ h2
   split at h
   ·rename_i ρ₀ h3
    split at h
    ·rename_i out h4
     exact ⟨ρ', ds, ρ₁, ρ₀, out, h1, h2, h3, h4, rfl⟩
    ·exact absurd rfl h
   ·exact absurd rfl h
  ·exact absurd rfl h
theorem Lk {G : Gd} {cx : Cx} {sc : Scope} {ρ : AEnv} {S : Addr → Prop} {i : Nat} {x : Str} {v : Value} {t : T} {s : Shared} {E : Value → Shared → Prop} {Q : Unit → Shared → Prop} (ok : CxOk G cx sc 0) (fn : FnCx G cx) (r : Rel G cx sc ρ S s.heap) (hx : (Qm sc)[i]? = some x) (hk : sc.names.lookup x = some .local) (hcl : Zr x = false ∨ ∃ d, t = .sh d) (tv : Ul cx S s.heap v t)
  (hQ : ∀ h' tk, Rel G cx sc (ρ.set i (some t)) S h' → Ext S s.heap S h' → Heap.SameBut cx.env.locals s.heap h' → (∀ y w, y ≠ x → Var cx.env h' y w → Var cx.env s.heap y w) → Q () { s with heap := h', toks := tk }) : wpAny G.M cx.A (storeName cx.env x v) Q E s := by
 have hkf : cx.env.scope.kind = .function := by rw [ok.hsc]; exact ok.hk
 have kd : ∀ y, cx.env.kindOf y = sc.names.lookup y := fun y => by unfold Env.kindOf; rw [ok.hsc]
 obtain ⟨m, hm⟩ := r.ns
 have hm0 := hm
 obtain ⟨oL, es, ep, eL, dL, _⟩ := hm0
 refine wpAny_storeName_local ((kd x).trans hk) hm (fun h' n' k => ?_) (by rw [hkf]; rfl)
 have n'' := n'
 obtain ⟨oL', es', ep', eL', dL', _⟩ := n''
 have cellsame : ∀ y c, cx.env.cells.lookup y = some c → ∀ w, s.heap.IsCell c w → h'.IsCell c w := fun y c q w n => n.sameBut k (fn.loc y c q)
 have vx : Var cx.env h' x v := .inl ⟨(kd x).trans hk, _, n', by simp⟩
 have hf : ∀ y w, y ≠ x → Var cx.env h' y w → Var cx.env s.heap y w := fun y w hy q => by
  rcases q with ⟨a, m₁, b, c⟩ | ⟨a, c, b, d⟩
  ·refine .inl ⟨a, m, hm, ?_⟩
   have := b.agree n' y
   rw [if_neg hy] at this
   rw [← this]; exact c
  ·obtain ⟨w₀, n₀⟩ := r.cells y c b
   exact .inr ⟨a, c, b, by rw [IsCell.inj d (cellsame y c b _ n₀)]; exact n₀⟩
 obtain ⟨r', x'⟩ := r.store (loc := cx.env.locals) (i := i) (x := x) (v := v) (t := t) fn.bh ok.nodup hx eL (by rintro (⟨_, vs, n, q⟩ | ⟨vs, q⟩) <;> (rw [dL] at q; cases q)) (fun vs n q => by rw [dL] at q; cases q) r.sloc fn.lnew (.inl rfl) k
  ⟨oL', eL', fun _ => ⟨es', ep', dL'⟩⟩ ⟨_, n'⟩ (fun y c q => let ⟨w, n⟩ := r.cells y c q; ⟨w, cellsame y c q w n⟩) vx
  (fun y w hy q => by
   rcases q with ⟨a, m₁, b, c⟩ | ⟨a, c, b, d⟩
   ·refine .inl ⟨a, _, n', ?_⟩
    rw [if_neg hy, ← b.agree hm y]; exact c
   ·exact .inr ⟨a, c, b, cellsame y c b _ d⟩)
  hf hcl tv.st
 exact hQ h' _ r' x' k hf
theorem Rel.butDict {G : Gd} {cx : Cx} {sc : Scope} {ρ : AEnv} {S : Addr → Prop} {h h' : Heap} {C : Addr} {oC : Obj} {es : Array DictEntry} {ep : Nat} (r : Rel G cx sc ρ S h) (e : h.get? C = some oC) (hd : oC.data = .dict es ep) (hS : ¬ S C) (hl : C ≠ cx.env.locals) (h0 : cx.h₀.get? C = none) (hB : G.B.get? C = none) (hff : ∀ env ∈ cx.fs, env.frame ≠ some C) (hv : ∀ (j : Nat) (y : Str) (m : Bool) (ks : List (List Int)) (ds : List D), (Qm sc)[j]? = some y → ρ[j]? = some (some (.ow m (.dict ks ds))) → ¬ Var cx.env h y (.ref C)) (k : Heap.SameBut C h h') (e' : ∃ o, h'.get? C = some o) :
  Rel G cx sc ρ S h' ∧ Ext S h S h' ∧ QR cx.env h h' ∧ (∀ y w, Var cx.env h' y w → Var cx.env h y w) := by
 have hi : ¬ Imm oC := by rintro (⟨_, vs, n, q⟩ | ⟨vs, q⟩) <;> (rw [hd] at q; cases q)
 have x' : Ext S h S h' := RV.but e hi hS (fun b o hb eb => (k.2 b hb).trans eb) e'
 have nsame : ∀ m, h.Ns cx.env.locals m → h'.Ns cx.env.locals m := fun m n => n.sameBut k (Ne.symm hl)
 have cne : ∀ y c, cx.env.cells.lookup y = some c → c ≠ C := fun y c q => by
  rintro rfl
  obtain ⟨v, o, e'', hd'⟩ := r.cells y _ q
  rw [e] at e''; cases e''; rw [hd] at hd'; cases hd'
 have csame : ∀ y c, cx.env.cells.lookup y = some c → ∀ w, h.IsCell c w → h'.IsCell c w := fun y c q w n => n.sameBut k (cne y c q)
 have same : QR cx.env h h' := fun y w q => by
  rcases q with ⟨a, m₁, b, c⟩ | ⟨a, c, b, d⟩
  ·exact .inl ⟨a, m₁, nsame m₁ b, c⟩
  ·exact .inr ⟨a, c, b, csame y c b _ d⟩
 have hf : ∀ y w, Var cx.env h' y w → Var cx.env h y w := fun y w q => by
  rcases q with ⟨a, m₁, b, c⟩ | ⟨a, c, b, d⟩
  ·obtain ⟨m₀, n₀⟩ := r.ns
   exact .inl ⟨a, m₀, n₀, by rw [(nsame m₀ n₀).agree b y]; exact c⟩
  ·obtain ⟨w₀, n₀⟩ := r.cells y c b
   exact .inr ⟨a, c, b, by rw [IsCell.inj d (csame y c b _ n₀)]; exact n₀⟩
 refine ⟨⟨fun b o q => (k.2 b (by rintro rfl; rw [hB] at q; cases q)).trans (r.base b o q), fun b o q => ?_, fun env he => ?_, let ⟨m, n⟩ := r.ns; ⟨m, nsame m n⟩, fun y c q => let ⟨w, n⟩ := r.cells y c q; ⟨w, csame y c q w n⟩, fun b q => let ⟨o, eo⟩ := r.sdom b q; x'.dom b o eo, r.sok, r.sloc, r.scell, fun y b hdy q => let ⟨o, eo⟩ := r.live y b hdy (hf y _ q); x'.dom b o eo, r.clean, fun v q => let ⟨C, e⟩ := r.hok v q; ⟨C, e.ext x'⟩, fun j y u hy hu => ?_, fun j l y z m m' d d' u hy hz hj hl a b => r.inj j l y z m m' d d' u hy hz hj hl (hf y _ a) (hf z _ b), r.dok.back hf⟩, x', same, hf⟩
 ·obtain ⟨sl, q₁, k₁⟩ := r.keep b o q
  exact ⟨sl, (k.2 b (by rintro rfl; rw [h0] at q; cases q)).trans q₁, k₁⟩
 ·obtain ⟨p, L, o, b, c, d, es, n, q⟩ := r.ff env he
  exact ⟨p, L, o, b, c, (k.2 L (by rintro rfl; exact hff env he b)).trans d, es, n, q⟩
 ·obtain ⟨w, hw', tw⟩ := r.vars j y u hy hu
  refine ⟨w, same y w hw', ?_⟩
  cases u with
  | sh d => exact RV.ext x' tw
  | ow m d =>
   obtain ⟨b, rfl, n1, ow, n2⟩ := tw
   refine ⟨b, rfl, n1, ow.ext x' fun o eo => ⟨o.slots, (k.2 b ?_).trans eo, fun _ => rfl⟩, n2⟩
   rintro rfl
   rcases ow.cases with ow | ⟨ks, ds, rfl, _⟩
   ·obtain ⟨o', ho', _, vs, n, hd'⟩ := ow.cls
    rw [e] at ho'; cases ho'; rw [hd] at hd'; cases hd'
   ·exact hv j y m ks ds hy hu hw'
noncomputable def Ie (M : Model) (A : Around) (E : Value → Shared → Prop) (use : Option (Value → Sem Unit)) (Q : Value → Shared → Prop) (acc : Value) (C : Addr) (r : Result) (s' : Shared) : Prop := match r, use with
 | .ok _, none => ∃ m, s'.heap.Ns C m ∧ ∀ h' m', h'.Ns C m' → Heap.SameBut C s'.heap h' → Q acc { s' with heap := h' }
 | .ok _, some u => wpAny M A (u acc) (fun _ s'' => ∃ m, s''.heap.Ns C m ∧ ∀ h' m', h'.Ns C m' → Heap.SameBut C s''.heap h' → Q .none { s'' with heap := h' }) E s'
 | .error _, _ => False
theorem OI {M : Model} {A : Around} {E : Value → Shared → Prop} {s : Shared} {env : Env} {e : Expr} {scope : Scope} {pos : Pos} {newAcc first : Sem Value} {g : Comprehension} {gs : List Comprehension} {cl : List (Str × Addr)} {use : Option (Value → Sem Unit)} {Q : Value → Shared → Prop}
  (hcl : clausesOf e = g :: gs) (hs : ∀ x, foldedSetIterable g.iter env x = pure x) (hclos : closureFor scope env = pure cl) (hkind : scope.kind = .function) (hnames : ∀ x ∈ scope.names, x.2 = .local → scope.names.lookup x.1 = some .local)
  (h : wpAny M A first (fun x s₁ => wpAny M A (pyIter x) (fun it s₂ => wpAny M A newAcc (fun acc s₃ => wpAny M A (newFunctionEnv scope env.globals cl [] env.qual none .none (some env)) (fun cenv s₄ =>
   codeAny M A (.compStart e 0 it acc { cenv with scope := relabel scope env }) (Ie M A E use Q acc cenv.locals) s₄) E s₃) E s₂) E s₁) E s) :
  wpAny M A (comprehension e scope env pos newAcc false first use) Q E s := by
 unfold comprehension
 rw [hclos, hcl]
 refine wpAny_bind (wpAny_mono h (fun x s₁ h₁ => wpAny_bind (wpAny_standAt (wpAny_bind (wpAny_of_eq (hs x) (wpAny_bind (wpAny_holding (wpAny_mono h₁ (fun it s₂ h₂ => wpAny_standIf (wpAny_bind (wpAny_mono h₂ (fun acc s₃ h₃ => wpAny_bind (wpAny_pure (wpAny_bind (wpAny_mono h₃ (fun cenv s₄ h₄ => ?_) fun _ _ z => z)))) fun _ _ z => z))) fun _ _ z => z))))))) fun _ _ z => z)
 dsimp only
 have loc : ∀ x : Str × NameKind, x ∈ scope.names → x.2 = .local → Env.kindOf { cenv with scope := relabel scope env } x.1 = some .local := fun x hx hl => lookup_relabel_local (hnames x hx hl)
 have v1 : ∀ x ∈ (scope.names.filter fun x => (x.2 == .local || x.2 == .cell) && x.1 != (".0" : Str)).reverse, x.2 = .local → Env.kindOf { cenv with scope := relabel scope env } x.1 = some .local := fun x hx => loc x (List.mem_filter.mp (List.mem_reverse.mp hx)).1
 refine wpAny_holding (wpAny_bind (wpAny_attempt (wpAny_holding (wpAny_run (codeAny_mono h₄ fun r s' hr => ?_)))))
 cases r with
 | error x => cases use <;> exact hr.elim
 | ok f =>
  cases use with
  | none =>
   obtain ⟨m, hn, hr⟩ := hr
   exact wpAny_bind (wpAny_holding (wpAny_comp_letGo (cenv := { cenv with scope := relabel scope env }) hkind _ s' m v1 hn fun h' m' hn' hs' => wpAny_pure (hr h' m' hn' hs')))
  | some u =>
   refine wpAny_bind (wpAny_rule (wpAny_bind (wpAny_holding (wpAny_mono hr (fun _ s'' hr' => ?_) fun _ _ z => z))))
   obtain ⟨m, hn, hr'⟩ := hr'
   refine wpAny_bind (wpAny_comp_letGo (cenv := { cenv with scope := relabel scope env }) hkind _ s'' m (fun x hx => ?_) hn fun h' m' hn' hs' => wpAny_pure (hr' h' m' hn' hs'))
   rcases List.mem_append.mp hx with q | q
   ·exact v1 x (List.mem_of_mem_drop q)
   ·exact v1 x (List.mem_of_mem_take q)
theorem After.varBack {G : Gd} {cx : Cx} {sc : Scope} {ρ : AEnv} {X : List Addr} {S S' : Addr → Prop} {h h' : Heap} (k : After X S h S' h') (r : Rel G cx sc ρ S h) {y : Str} {w : Value} (q : Var cx.env h' y w) : Var cx.env h y w := by
 rcases q with ⟨a, m₁, b, c⟩ | ⟨a, c, b, d⟩
 ·obtain ⟨m₀, n₀⟩ := r.ns
  exact .inl ⟨a, m₀, n₀, by rw [(k.ns n₀).agree b y]; exact c⟩
 ·obtain ⟨w₀, n₀⟩ := r.cells y c b
  exact .inr ⟨a, c, b, by rw [IsCell.inj d (k.cell n₀)]; exact n₀⟩
section
variable {G : Gd} {k : Nat} {sc csc : Scope}
theorem CK {cx : Cx} {ρ : AEnv} {S : Addr → Prop} {s : Shared} {tg iter elt : Expr} {ifs : List Expr} {pos p : Pos} {xs : List Str} {src : AEnv → Res (List D)} {b : D → AEnv → Option AEnv} {t : AEnv → Res Bool} {f : AEnv → Res T} {use : Option (Value → Sem Unit)} {Q : Value → Shared → Prop} {E : Value → Shared → Prop}
  (hi : BT G k sc tg iter src) (ha : Vr G (QQ csc sc) tg xs b) (hxs : ∀ x ∈ xs, csc.names.lookup x = some .local ∨ csc.names.lookup x = some .cell) (ht : Vg G k (QQ csc sc) ifs t) (he : Sim G k (QQ csc sc) elt f) (hok : UK sc csc = true)
  (hs : ∀ env x, foldedSetIterable iter env x = pure x) (ok : CxOk G cx sc k) (r : Rel G cx sc ρ S s.heap) (nst : Oa sc csc src b t f ρ ≠ .stuck)
  (fin : ∀ out ρ₁ L C S' h' tk, Oa sc csc src b t f ρ = .ok (.ow true (.list out)) ρ₁ → Rel G cx sc ρ₁ S' h' → Ext S s.heap S' h' → QR cx.env s.heap h' → Fresh cx S' h' (.ref L) (.list out) → (∃ m, h'.Ns C m) → ¬ S' C → C ≠ L → C ≠ cx.env.locals → cx.h₀.get? C = none → G.B.get? C = none → s.heap.get? C = none → (∀ env ∈ cx.fs, env.frame ≠ some C) → (∀ (j : Nat) (y : Str) (m : Bool) (ks : List (List Int)) (ds : List D), (Qm sc)[j]? = some y → ρ₁[j]? = some (some (.ow m (.dict ks ds))) → ¬ Var cx.env h' y (.ref C)) →
   Ie G.M cx.A E use Q (.ref L) C (.ok .next) { s with heap := h', toks := tk }) :
  wpAny G.M cx.A (comprehension (.ListComp elt [⟨tg, iter, ifs, 0⟩] csc pos) csc cx.env p (newList []) false (eval iter cx.env) use) Q E s := by
 have hok0 := hok
 unfold UK at hok0
 simp only [Bool.and_eq_true, beq_iff_eq] at hok0
 have hkind : csc.kind = .function := hok0.1.1
 have hnd : (csc.names.map (·.1)).Nodup := Yr hok0.1.2
 obtain ⟨ρ', ds, ρ₁, ρ₀, out, c1, c2, c3, c4, c5⟩ := GT nst
 have g₀ : CG G cx sc csc ρ S s.heap [] s.heap.objs.size ρ' := ⟨ok.hsc, r, (fun b hb => by cases hb), Nat.le_refl _, hok, c1⟩
 have hcl : ∀ x ∈ csc.names, x.2 = .free → ∃ c, cx.env.cells.lookup x.1 = some c := fun x hx hf => by
  obtain ⟨n, kk⟩ := x
  cases hf
  obtain ⟨c, v, i, t, h1, _⟩ := g₀.taken (J8 hnd hx)
  exact ⟨c, h1⟩
 refine OI (use := use) rfl (hs cx.env) (Cb hcl) hkind (fun x hx hl => by
  obtain ⟨n, kk⟩ := x
  cases hl
  exact J8 hnd hx) ?_
 refine hi cx ok ρ S s r _ E ?_
 rw [c2]
 intro I wr St S₁ h₁ t₁ r₁ it st nw x₁ v₁
 have new : ∀ b ∈ wr, cx.h₀.get? b = none ∧ G.B.get? b = none := fun b hb => ⟨r.keep.none (nw b hb), by
  cases q : G.B.get? b with
  | none => rfl
  | some o => have := r.base b o q; rw [nw b hb] at this; cases this⟩
 have g : CG G cx sc csc ρ₁ S₁ h₁ wr (h₁.objs.size + 1) ρ₀ := ⟨ok.hsc, r₁, new, Nat.le_succ _, hok, c3⟩
 have sh := it.shape 0 S₁ h₁ st
 have ci := CI.init g sh
 refine wpAny_newObj_type (Ki ?_) (by show ([] : List Value).toArray.size ≤ sizeLine; simp)
 dsimp only
 rw [Heap.size_push]
 have envE : ({ scope := relabel csc cx.env, locals := h₁.objs.size + 1, globals := cx.env.globals, cells := cellsFrom (h₁.objs.size + 1 + 1) csc.names (Un cx.env csc.names []), qual := cx.env.qual, func := none, code := cx.env.code, frame := cx.env.frame, builtins := cx.env.builtins } : Env) = Uo csc sc cx.env (h₁.objs.size + 1) := by
  unfold Uo ZF
  rw [EF ok.hsc]
 rw [envE]
 have hn₁ : h₁.get? h₁.objs.size = none := Heap.get?_none_of_le (Nat.le_refl _)
 have hn₂ : h₁.get? (h₁.objs.size + 1) = none := Heap.get?_none_of_le (Nat.le_succ _)
 have loop : codeAny G.M cx.A (.compLoop (.ListComp elt [⟨tg, iter, ifs, 0⟩] csc pos) 0 (.ref I) (.ref h₁.objs.size) (Uo csc sc cx.env (h₁.objs.size + 1))) (Ie G.M cx.A E use Q (.ref h₁.objs.size) (h₁.objs.size + 1)) { s with heap := Uq h₁ csc, toks := t₁ } := by
  refine Go (s := { s with heap := Uq h₁ csc, toks := t₁ }) (n := 0) g ok it ha hxs ht he ci ?_ hn₁ (Nat.lt_succ_self _) (fun q => ?_) (it.ext 0 S₁ h₁ S₁ _ st (Ext.of_keeps fun b o e => X7 e)) (GX r.hOk nw) c4 fun S' h' tk ci' own hSL => ?_
  ·exact pushCells_keeps _ _ _ _ (Heap.get?_push_of_some _ (Heap.get?_push_size _ rfl))
  ·obtain ⟨o, e⟩ := r₁.sdom _ q; rw [hn₁] at e; cases e
  ·obtain ⟨ro, same⟩ := r₁.after ci'.aft ci'.base fun b hb => (new b hb).1
   refine fin out ρ₁ h₁.objs.size (h₁.objs.size + 1) S' h' tk c5 ro (ci'.aft.ext x₁ nw) (v₁.trans same) ⟨_, rfl, hSL, own, r₁.keep.none hn₁, fun x hd q => ?_⟩ ci'.ns ci'.sloc (Nat.succ_ne_self _) ?_ (r₁.keep.none hn₂) ?_ (x₁.none hn₂) (fun env he q => ?_) fun j y m ks ds hy hj q => ?_
   rotate_right
   ·obtain ⟨o, e⟩ := r₁.live y _ (r₁.clean j y m _ hy hj) (ci'.aft.varBack r₁ q)
    rw [hn₂] at e; cases e
   ·obtain ⟨o, e⟩ := r₁.live x _ hd (ci'.aft.varBack r₁ q)
    rw [hn₁] at e; cases e
   ·intro q
    obtain ⟨m, o, _, _, e, _⟩ := r₁.ns
    rw [← q, hn₂] at e; cases e
   ·cases q : G.B.get? (h₁.objs.size + 1) with
    | none => rfl
    | some o => have := r₁.base _ o q; rw [hn₂] at this; cases this
   ·obtain ⟨_, L, o, b, _, d, _⟩ := r₁.ff env he
    rw [q] at b; cases b
    rw [hn₂] at d; cases d
 exact codeAny_compStart_list loop (it.self 0 S₁ _ _ _ (it.ext 0 S₁ h₁ S₁ _ st (Ext.of_keeps fun b o e => X7 e)) loop)
theorem Dm {tg iter elt : Expr} {ifs : List Expr} {pos : Pos} {xs : List Str} {src : AEnv → Res (List D)} {b : D → AEnv → Option AEnv} {t : AEnv → Res Bool} {f : AEnv → Res T} (hi : BT G k sc tg iter src) (ha : Vr G (QQ csc sc) tg xs b) (hxs : ∀ x ∈ xs, csc.names.lookup x = some .local ∨ csc.names.lookup x = some .cell)
  (ht : Vg G k (QQ csc sc) ifs t) (he : Sim G k (QQ csc sc) elt f) (hok : UK sc csc = true) (hs : ∀ env x, foldedSetIterable iter env x = pure x) : Sim G k sc (.ListComp elt [⟨tg, iter, ifs, 0⟩] csc pos) (Oa sc csc src b t f) := by
 intro cx ok ρ S s r Q E out
 rw [eval_ListComp]
 refine CK hi ha hxs ht he hok hs ok r (fun q => by rw [q] at out; exact out) fun ds ρ₁ L C S' h' tk e r' x' v' fr ns hSC hCL hCl hC0 hCB hCs hff hCv => ?_
 rw [e] at out
 obtain ⟨m, n⟩ := ns
 refine ⟨m, n, fun h'' m'' n'' k'' => ?_⟩
 obtain ⟨oC, es, ep, eC, dC, _⟩ := n
 obtain ⟨oC', _, _, eC', _⟩ := n''
 obtain ⟨r'', x'', v''⟩ := r'.butDict eC dC hSC hCl hC0 hCB hff hCv k'' ⟨_, eC'⟩
 obtain ⟨a, ea, n1, ow, n2, nv⟩ := fr
 cases ea
 exact out (.ref L) h'' tk S' r'' ⟨L, rfl, n1, ow.ext x'' fun o eo => (k''.2 L (Ne.symm hCL)).trans eo, n2, fun x hd q => nv x hd (v''.2 x _ q)⟩ (x'.trans x'') fun z => v'.trans v''.1
theorem Vw {tg iter elt : Expr} {ifs : List Expr} {pos yp spos : Pos} {xs : List Str} {y : Str} {i : Nat} {src : AEnv → Res (List D)} {b : D → AEnv → Option AEnv} {t : AEnv → Res Bool} {f : AEnv → Res T} (hi : BT G k sc tg iter src) (ha : Vr G (QQ csc sc) tg xs b) (hxs : ∀ x ∈ xs, csc.names.lookup x = some .local ∨ csc.names.lookup x = some .cell)
  (ht : Vg G k (QQ csc sc) ifs t) (he : Sim G k (QQ csc sc) elt f) (hok : UK sc csc = true) (hs : ∀ env x, foldedSetIterable iter env x = pure x) (hy : (Qm sc)[i]? = some y) (hk : sc.names.lookup y = some .local) (hcl : Zr y = false)
  (hsw : ∀ env : Env, env.scope = sc → swapsWith (.ListComp elt [⟨tg, iter, ifs, 0⟩] csc pos) (some (.Name y yp)) spos.line env = pure true) : Jk G k sc (.Assign [.Name y yp] (.ListComp elt [⟨tg, iter, ifs, 0⟩] csc pos) spos) (Qx i (Oa sc csc src b t f)) := by
 intro cx ok fn ρ S s r Q E out
 rw [exec_Assign_Name_used _ _ _ _ (hsw cx.env ok.hsc)]
 refine wpAny_bind (wpAny_standAt (wpAny_bind ?_))
 rw [arm_evalThenUse_ListComp]
 refine wpAny_bind ?_
 unfold Qx at out
 refine CK (use := some (assign (.Name y yp) cx.env)) hi ha hxs ht he hok hs ok r (fun q => by rw [q] at out; exact out) fun ds ρ₁ L C S' h' tk e r' x' v' fr ns hSC hCL hCl hC0 hCB hCs hff hCv => ?_
 rw [e] at out
 show wpAny G.M cx.A (assign (.Name y yp) cx.env (.ref L)) _ E _
 rw [PySem.assign_Name]
 refine wpAny_bind (wpAny_standAt (wpAny_bindName ?_))
 refine Lk (s := { s with heap := h', toks := tk }) (ok.mono (Nat.zero_le _)) fn.toFnCx r' hy hk (.inl hcl) (t := .ow true (.list ds)) fr fun h₂ t₂ r₂ x₂ k₂ f₂ => ?_
 obtain ⟨m, n⟩ := ns
 have n₂ : h₂.Ns C m := n.sameBut k₂ hCl
 refine ⟨m, n₂, fun h₃ m₃ n₃ k₃ => ?_⟩
 obtain ⟨oC, es, ep, eC, dC, _⟩ := n₂
 obtain ⟨oC', _, _, eC', _⟩ := n₃
 obtain ⟨r₃, x₃, v₃⟩ := r₂.butDict eC dC hSC hCl hC0 hCB hff (fun j z m ks ds' hz hj q => by
  have hj' := Ci hj (by intro q; cases q)
  refine hCv j z m ks ds' hz hj' (f₂ z _ ?_ q)
  rintro rfl
  obtain ⟨p1, e1⟩ := List.getElem?_eq_some_iff.mp hy
  obtain ⟨p2, e2⟩ := List.getElem?_eq_some_iff.mp hz
  cases (List.getElem_inj ok.nodup).mp (e1.trans e2.symm)
  by_cases hl : i < ρ₁.length
  ·rw [List.getElem?_set_self hl] at hj; cases hj
  ·rw [List.getElem?_eq_none (by rw [List.length_set]; exact Nat.le_of_not_lt hl)] at hj; cases hj) k₃ ⟨_, eC'⟩
 exact wpAny_pure (wpAny_pure (out .next h₃ t₂ S' r₃ trivial ((x'.trans x₂).trans x₃) fun z => by cases z))
end
end Mine
end

section
set_option Elab.async false
set_option maxRecDepth 100000
namespace Mine
open PySem PyProof.Rows
structure Gr (G : Gd) : Prop where
 ok : G.Ok
 tr : ∃ p loose, W.TopRead p loose G.mg G.mb G.B
 mbb : ∀ x : Str, x ≠ "__name__" → G.mb x = bootBuiltins x
theorem Gr.loud {G : Gd} (g : Gr G) : Gr G.loud := ⟨⟨g.ok.g, g.ok.b, g.ok.nolimit, g.ok.K⟩, g.tr, g.mbb⟩
noncomputable def Zc (K : W.Frag) (a : Addr) : FuncData := match K.lookup a with | some ⟨_, _, .func fd, _⟩ => fd | _ => default
noncomputable def Kv (K : W.Frag) (a : Addr) : Bool := match K.lookup a with | some ⟨_, _, .func _, _⟩ => true | _ => false
noncomputable def UG (fd : FuncData) : List Stmt := match fd.body with | .stmts b => b | _ => []
set_option tactic.hygienic true in
theorem FI {G : Gd} (g : Gr G) {a : Addr} (h : Kv G.K a = true) : ∃ fo, G.B.get? a = some fo ∧ fo.data = .func (Zc G.K a) := by
 unfold Kv at h
 unfold Zc
 split at h
 ·rename_i c d fd sl e
  exact ⟨_, g.ok.K _ _ e, rfl⟩
 ·cases h
section
variable {G : Gd} {k : Nat} {sc : Scope} {x : Str} {p : Pos}
theorem nV (i : Nat) (hx : (Qm sc)[i]? = some x := by kernel_rfl) (hd : (x == ("__debug__" : Str)) = false := by kernel_rfl) (hn : (x == ("__classdict__" : Str)) = false := by kernel_rfl) : Sim G k sc (.Name x p) (Xe i) := G6 hx hd hn
theorem nB (i : Nat) (hx : (Qm sc)[i]? = some x := by kernel_rfl) (hd : (x == ("__debug__" : Str)) = false := by kernel_rfl) (hn : (x == ("__classdict__" : Str)) = false := by kernel_rfl) : Qh G k sc (.Name x p) (eOp i) := GI hx hd hn
theorem gF (g : Gr G) (a : Addr) (e : W.nsIn G.K mainGlobals x = some (some (.ref a)) := by kernel_rfl) (ho : (G.K.lookup a).isSome = true := by kernel_rfl) (hx : sc.names.lookup x = some .globalImplicit := by kernel_rfl) (hd : (x == ("__debug__" : Str)) = false := by kernel_rfl) :
  Sim G k sc (.Name x p) (Qd (.glob (.ref a))) := by
 obtain ⟨o, ho⟩ := Option.isSome_iff_exists.mp ho
 exact V2 g.ok hx (W.mg_of g.ok.K g.ok.g e) (fun b q => by cases q; exact ⟨o, g.ok.K _ _ ho⟩) hd
theorem gI (g : Gr G) (i : Int) (t : Tok) (e : W.nsIn G.K mainGlobals x = some (some (.int i t)) := by kernel_rfl) (hx : sc.names.lookup x = some .globalImplicit := by kernel_rfl) (hd : (x == ("__debug__" : Str)) = false := by kernel_rfl) :
  Sim G k sc (.Name x p) (Qd (.int i)) := BR g.ok hx (W.mg_of g.ok.K g.ok.g e) hd
theorem gB (g : Gr G) (v : Value) (e : W.nsIn G.K mainGlobals x = some none := by kernel_rfl) (hv : bootBuiltins x = some v := by kernel_rfl) (hn : (x == ("__name__" : Str)) = false := by kernel_rfl) (hl : v.isRef = false := by rfl) (hx : sc.names.lookup x = some .globalImplicit := by kernel_rfl) (hd : (x == ("__debug__" : Str)) = false := by kernel_rfl) :
  Sim G k sc (.Name x p) (Qd (.glob v)) :=
 Eh g.ok hx (W.mg_none_of g.ok.K g.ok.g e) ((g.mbb x (by simpa using hn)).trans hv) (fun a q => by subst q; cases hl) hd
variable {args : List Expr} {pos : Pos}
theorem cF (g : Gr G) (a : Addr) {k' : Nat} {F : List D → FOut} {fa : AEnv → Res (List Bv)} (hF : Zy G k' (.ref a) F) (ha : Uz G k sc args fa) (hk : k' ≤ k := by decide) (hf : Kv G.K a = true := by kernel_rfl) (e : W.nsIn G.K mainGlobals x = some (some (.ref a)) := by kernel_rfl) (ho : (G.K.lookup a).isSome = true := by kernel_rfl) (hx : sc.names.lookup x = some .globalImplicit := by kernel_rfl) (hd : (x == ("__debug__" : Str)) = false := by kernel_rfl) (hu : args.all XH = true := by kernel_rfl) :
  Sim G k sc (.Call (.Name x p) args [] pos) (QA F fa) := by
 obtain ⟨fo, h1, h2⟩ := FI g hf
 exact H0 (gF g a e ho hx hd) h1 h2 hF hk ha hu
theorem cB (g : Gr G) (v : Value) {F : List D → Option T} {fa : AEnv → Res (List Bv)} (hop : OpN G (fun vs => call v vs []) F) (ha : Uz G k sc args fa) (e : W.nsIn G.K mainGlobals x = some none := by kernel_rfl) (hv : bootBuiltins x = some v := by kernel_rfl) (hn : (x == ("__name__" : Str)) = false := by kernel_rfl) (hl : v.isRef = false := by rfl) (hx : sc.names.lookup x = some .globalImplicit := by kernel_rfl) (hd : (x == ("__debug__" : Str)) = false := by kernel_rfl) (hu : args.all XH = true := by kernel_rfl) :
  Sim G k sc (.Call (.Name x p) args [] pos) (Q8 F fa) := GQ (gB g v e hv hn hl hx hd) (fun a q => by subst q; cases hl) hop ha hu
theorem aC {e : Expr} {rest : List Expr} {f : AEnv → Res Bv} {h : AEnv → Res (List Bv)} (he : Qh G k sc e f) (hr : Uz G k sc rest h) (hs : XH e = true := by kernel_rfl) : Uz G k sc (e :: rest) (Qb f h) := Ey he hr hs
theorem vC {e : Expr} {rest : List Expr} {f : AEnv → Res T} {h : AEnv → Res (List D)} (he : Sim G k sc e f) (hr : Os G k sc rest h) (hs : XH e = true := by kernel_rfl) : Os G k sc (e :: rest) (Qw f h) := ED he hr hs
theorem B6 {l r : Expr} {op : CmpOp} {f h : AEnv → Res Bv} {F : D → D → Option T} (hl : Qh G k sc l f) (hr : Qh G k sc r h) (hop : Op2 G (compareOp op) F) (hm : behindInMarks op r = false := by kernel_rfl) : Sim G k sc (.Compare l [op] [r] pos) (Qr F f h) := CV hl hr hop hm
theorem Jm {l r : Expr} {op : CmpOp} {f h : AEnv → Res Bv} {F : D → D → Option T} (hl : Qh G k sc l f) (hr : Qh G k sc r h) (hop : Op2 G (compareOp op) F) (hm : behindInMarks op r = false := by kernel_rfl) : Kk G k sc (.Compare l [op] [r] pos) (Xl F f h) := Cd hl hr hop hm
theorem chT {l m r : Expr} {op op' : CmpOp} {f g h : AEnv → Res Bv} {F F' : D → D → Option T} (hl : Qh G k sc l f) (hm : Qh G k sc m g) (hr : Qh G k sc r h) (hop : Op2 G (compareOp op) F) (hop' : Op2 G (compareOp op') F') (hb : behindInMarks op' r = false := by kernel_rfl) : Kk G k sc (.Compare l [op, op'] [m, r] pos) (JS F F' f g h) := Fj hl hm hr hop hop' hb
theorem Y0 {fn : Expr} {f : AEnv → Res Bv} (h : Qh G k sc (.Call fn args [] pos) f) : Kk G k sc (.Call fn args [] pos) (XU f) := DX h fun _ _ => rfl
theorem LI {f : AEnv → Res Bv} (h : Qh G k sc (.Name x p) f) : Kk G k sc (.Name x p) (XU f) := DX h fun _ _ => rfl
theorem sub {value slice : Expr} {f g : AEnv → Res Bv} (hl : Qh G k sc value f) (hr : Qh G k sc slice g) (hs : ∀ o i, subscripted slice false o i = operate [o, i] (getItem o i) := by intro _ _; rfl) : Sim G k sc (.Subscript value slice pos) (Qr Xn f g) := BW hl hr hs
theorem asg {value : Expr} {f : AEnv → Res T} (i : Nat) (h : Sim G k sc value f) (hx : (Qm sc)[i]? = some x := by kernel_rfl) (hk : (sc.names.lookup x == some .local || sc.names.lookup x == some .cell) = true := by kernel_rfl) (hcl : Zr x = false := by kernel_rfl) (hs : ∀ env : Env, swapsWith value (some (.Name x p)) pos.line env = pure false := by intro _; rfl) : Jk G k sc (.Assign [.Name x p] value pos) (Qx i f) :=
 Ec h hx (by simpa using hk) hcl fun env _ => hs env
theorem Hj (i : Nat) (hx : (Qm sc)[i]? = some x := by kernel_rfl) (hd : (x == ("__debug__" : Str)) = false := by kernel_rfl) (hn : (x == ("__classdict__" : Str)) = false := by kernel_rfl) : Jk G k sc (.Return (some (.Name x p)) pos) (JX i) := BJ hx hd hn
theorem CN (g : Gr G) (C : Addr) {np cpos : Pos} {bm : List Value} {newId Bn initId : String} {fa : AEnv → Res (List D)} (FB : ExcBaseFacts Bn newId initId bm) (ha : Os G k sc args fa) (hq : G.quiet = true := by rfl) (e : W.nsIn G.K mainGlobals x = some (some (.ref C)) := by kernel_rfl) (q : W.excIn G.K C bm newId = true := by kernel_rfl) (hx : sc.names.lookup x = some .globalImplicit := by kernel_rfl) (hd : (x == ("__debug__" : Str)) = false := by kernel_rfl) (hu : args.all XH = true := by kernel_rfl) :
  Jk G k sc (.Raise (some (.Call (.Name x np) args [] cpos)) none pos) (Jw C fa) := by
 obtain ⟨_, _, tr⟩ := g.tr
 exact EQ g.ok hq (W.own_of_in g.ok.K tr e q) FB hx hd ha hu
theorem LV (g : Gr G) (C' : Addr) (i : Nat) {body suite : List Stmt} {b₀ : Stmt} {n : Str} {np hp : Pos} {f h : AEnv → Res Fl} (hb : UB G k sc body f) (hs : UB G.loud k sc (b₀ :: suite) h) (hq : G.quiet = true := by rfl) (e : W.nsIn G.K mainGlobals x = some (some (.ref C')) := by kernel_rfl) (ho : (G.K.lookup C').isSome = true := by kernel_rfl) (hgx : sc.names.lookup x = some .globalImplicit := by kernel_rfl) (hd : (x == ("__debug__" : Str)) = false := by kernel_rfl)
  (hx : (Qm sc)[i]? = some n := by kernel_rfl) (hk : sc.names.lookup n = some .local := by kernel_rfl) (hdn : Zr n = true := by kernel_rfl) (hty : W.typeIn G.K (.ref C') = some (.type "type") := by kernel_rfl) (hcl : (W.clsIn G.K C').isSome = true := by kernel_rfl) (hbe : W.mroIn G.K C' (.type "BaseException") = some true := by kernel_rfl) :
  Jk G k sc (.Try body [.ExceptHandler (some (.Name x np)) (some n) (b₀ :: suite) hp] [] [] pos) (F8 G.K C' i f h) := HF g.ok hq hb hs (gF g.loud C' e ho hgx hd) hx hk hdn hty hcl hbe
theorem exM {e : Expr} {f : AEnv → Res T} (h : YH G k sc e f) (hs : ∀ env : Env, swapsWith e none pos.line env = pure false := by intro _; rfl) : Jk G k sc (.Expr e pos) (XF (Qc f)) := ET h hs
theorem B1 {apos : Pos} {e : Expr} {f : AEnv → Res T} (i : Nat) (he : YH G k sc e f) (hx : (Qm sc)[i]? = some x := by kernel_rfl) (hd : (x == ("__debug__" : Str)) = false := by kernel_rfl) (hn : (x == ("__classdict__" : Str)) = false := by kernel_rfl) (hu : ∀ env, backTo pos (starEach [e] env) = [(false, eval e env)] := by intro _; rfl) (hline : (apos.endLine == pos.line) = true := by rfl) : YH G k sc (.Call (.Attribute (.Name x p) "append" apos) [e] [] pos) (Za i f) := E2 he hx hd hn hu hline
theorem Mb {apos : Pos} {e : Expr} {f : AEnv → Res Bv} (i : Nat) (he : Qh G k sc e f) (hx : (Qm sc)[i]? = some x := by kernel_rfl) (hd : (x == ("__debug__" : Str)) = false := by kernel_rfl) (hn : (x == ("__classdict__" : Str)) = false := by kernel_rfl) (hu : ∀ env, backTo pos (starEach [e] env) = [(false, eval e env)] := by intro _; rfl) (hline : (apos.endLine == pos.line) = true := by rfl) : YH G k sc (.Call (.Attribute (.Name x p) "pop" apos) [e] [] pos) (GO i f) := Ix he hx hd hn hu hline
theorem LL {ip : Pos} {ix value : Expr} {f : AEnv → Res Bv} {g : AEnv → Res T} (i : Nat) (hf : Qh G k sc ix f) (hg : Sim G k sc value g) (hx : (Qm sc)[i]? = some x := by kernel_rfl) (hd : (x == ("__debug__" : Str)) = false := by kernel_rfl) (hn : (x == ("__classdict__" : Str)) = false := by kernel_rfl)
  (hs : ∀ env : Env, swapsWithSole [.Subscript (.Name x p) ix ip] value pos.line env = pure false := by intro _; rfl) (hw : ∀ env : Env, swappedStores [.Subscript (.Name x p) ix ip] value env = pure none := by intro _; rfl) : Jk G k sc (.Assign [.Subscript (.Name x p) ix ip] value pos) (Jd i f g) := C4 hf hg hx hd hn (fun env _ => hs env) hw
theorem tgN (i : Nat) (hx : (Qm sc)[i]? = some x := by kernel_rfl) : Vr G sc (.Name x p) [x] (QF i) := Cr hx
theorem Hf {y : Str} {py tp : Pos} {n : Nat} (i j : Nat) (hx : (Qm sc)[i]? = some x := by kernel_rfl) (hy : (Qm sc)[j]? = some y := by kernel_rfl) : Vr G sc (.Tuple [.Name x p, .Name y py] n tp) [x, y] (ZD [i, j]) := BB (.cons hx (.cons hy .nil))
theorem Ju {tg iter : Expr} {body : List Stmt} {src : AEnv → Res (List D)} {xs : List Str} {b : D → AEnv → Option AEnv} {f : AEnv → Res Fl} (hi : BT G k sc tg iter src) (ht : Vr G sc tg xs b) (hb : UB G k sc body f) (hxs : (xs.all fun x => sc.names.lookup x == some .local || sc.names.lookup x == some .cell) = true := by kernel_rfl)
  (hs : ∀ env x, foldedSetIterable iter env x = pure x := by intro _ _; rfl) : Jk G k sc (.For tg iter body [] pos) (YA src b f) := H2 hi ht (fun x hx => by simpa using List.all_eq_true.mp hxs x hx) hb hs
theorem enu (g : Gr G) {es : List Expr} {n : Nat} {tp : Pos} {e : Expr} {f : AEnv → Res T} (h : Sim G k sc e f) (hq : G.quiet = true := by rfl) (he : W.nsIn G.K mainGlobals ("enumerate" : Str) = some none := by kernel_rfl) (hx : sc.names.lookup ("enumerate" : Str) = some .globalImplicit := by kernel_rfl) (hu : XH e = true := by kernel_rfl) : BT G k sc (.Tuple es n tp) (.Call (.Name "enumerate" p) [e] [] pos) (Ve f) :=
 F3 hq (gB g (.type "enumerate") he (by kernel_rfl) (by kernel_rfl) rfl hx (by kernel_rfl)) h hu
end
noncomputable def H6 (sc csc : Scope) : List (Option Nat) := (Qm (QQ csc sc)).map fun x => if csc.names.lookup x == some .free then (Qm sc).findIdx? (· == x) else none
noncomputable def Wd (ρ : AEnv) : List (Option Nat) → Option AEnv
 | [] => some []
 | none :: r => (Wd ρ r).map (none :: ·)
 | some i :: r => match ρ[i]? with
  | some (some t) => (Wd ρ r).map (some t.weak :: ·)
  | _ => none
noncomputable def Ob (sc csc : Scope) : Bool := csc.names.all fun x => x.2 != .free || ((Qm sc).findIdx? (· == x.1)).isSome
theorem Dq {sc csc : Scope} {ρ : AEnv} (hf : Ob sc csc = true) : ∀ (l : List Str), Vz sc csc ρ l = Wd ρ (l.map fun x => if csc.names.lookup x == some .free then (Qm sc).findIdx? (· == x) else none)
 | [] => rfl
 | x :: r => by
  rw [Vz, List.map_cons, Dq hf r]
  unfold WD
  by_cases hx : (csc.names.lookup x == some .free) = true
  ·rw [if_pos hx, if_pos hx]
   have := List.all_eq_true.mp hf (x, .free) (Ji (beq_iff_eq.mp hx))
   simp only [bne_self_eq_false, Bool.false_or] at this
   obtain ⟨i, hi⟩ := Option.isSome_iff_exists.mp this
   rw [hi]
   simp only
   generalize List.map _ r = l'
   rw [Wd]
   cases hr : ρ[i]? with
   | none => cases hq : Wd ρ l' <;> rfl
   | some u =>
    cases u with
    | none => cases hq : Wd ρ l' <;> rfl
    | some t => cases hq : Wd ρ l' <;> rfl
  ·rw [if_neg hx, if_neg hx, Wd]
   generalize List.map _ r = l'
   cases hq : Wd ρ l' <;> rfl
noncomputable def Ys (cap : List (Option Nat)) (src : AEnv → Res (List D)) (b : D → AEnv → Option AEnv) (t : AEnv → Res Bool) (f : AEnv → Res T) : AEnv → Res T := fun ρ => match Wd ρ cap with
 | none => .stuck
 | some _ => match src ρ with
  | .ok ds ρ₁ => (match Wd ρ₁ cap with
   | some ρ₀ => (match Yl b t f ρ₀ ds [] with
    | some out => .ok (.ow true (.list out)) ρ₁
    | none => .stuck)
   | none => .stuck)
  | _ => .stuck
theorem Cg {sc csc : Scope} {cap : List (Option Nat)} {src : AEnv → Res (List D)} {b : D → AEnv → Option AEnv} {t : AEnv → Res Bool} {f : AEnv → Res T} (hf : Ob sc csc = true) (hc : H6 sc csc = cap) : Oa sc csc src b t f = Ys cap src b t f := by
 funext ρ
 unfold Oa Ys
 rw [Dq hf, show (Qm (QQ csc sc)).map _ = cap from hc]
 cases Wd ρ cap with
 | none => rfl
 | some _ =>
  simp only
  cases src ρ with
  | ok ds ρ₁ =>
   simp only
   rw [Dq hf, show (Qm (QQ csc sc)).map _ = cap from hc]
   all_goals rfl
  | exc _ _ => rfl
  | stuck => rfl
section
variable {G : Gd} {k : Nat} {sc csc : Scope} {tg iter elt : Expr} {ifs : List Expr} {pos : Pos} {xs : List Str} {src : AEnv → Res (List D)} {b : D → AEnv → Option AEnv} {t : AEnv → Res Bool} {f : AEnv → Res T}
theorem lc (cap : List (Option Nat)) (hi : BT G k sc tg iter src) (ha : Vr G (QQ csc sc) tg xs b) (ht : Vg G k (QQ csc sc) ifs t) (he : Sim G k (QQ csc sc) elt f) (hxs : (xs.all fun x => csc.names.lookup x == some .local || csc.names.lookup x == some .cell) = true := by kernel_rfl) (hok : UK sc csc = true := by kernel_rfl) (hfd : Ob sc csc = true := by kernel_rfl) (hc : H6 sc csc = cap := by kernel_rfl)
  (hs : ∀ env x, foldedSetIterable iter env x = pure x := by intro _ _; rfl) : Sim G k sc (.ListComp elt [⟨tg, iter, ifs, 0⟩] csc pos) (Ys cap src b t f) := by
 rw [← Cg hfd hc]
 exact Dm hi ha (fun x hx => by simpa using List.all_eq_true.mp hxs x hx) ht he hok hs
theorem EH {y : Str} {yp : Pos} {l : Nat} (hk : sc.kind = .function) (hy : sc.names.lookup y = some .local) (hl : (yp.line == pos.line) = true) (hn : (csc.names.any fun (n, k) => n == y && (k == .local || k == .cell)) = false) (env : Env) (he : env.scope = sc) : swapsWith (.ListComp elt [⟨tg, iter, ifs, 0⟩] csc pos) (some (.Name y yp)) l env = pure true := by
 show (pure (env.blockKind == .function && env.kindOf y == some .local && yp.line == pos.line && !(csc.names.any fun (n, k) => n == y && (k == .local || k == .cell))) : Sem Bool) = _
 have h1 : env.blockKind = .function := by
  unfold Env.blockKind
  rw [he, hk]
  rfl
 have h2 : env.kindOf y = some .local := by unfold Env.kindOf; rw [he]; exact hy
 rw [h1, h2, hl, hn]
 rfl
theorem Gb {y : Str} {yp spos : Pos} (i : Nat) (cap : List (Option Nat)) (hi : BT G k sc tg iter src) (ha : Vr G (QQ csc sc) tg xs b) (ht : Vg G k (QQ csc sc) ifs t) (he : Sim G k (QQ csc sc) elt f) (hxs : (xs.all fun x => csc.names.lookup x == some .local || csc.names.lookup x == some .cell) = true := by kernel_rfl) (hok : UK sc csc = true := by kernel_rfl) (hfd : Ob sc csc = true := by kernel_rfl) (hc : H6 sc csc = cap := by kernel_rfl)
  (hs : ∀ env x, foldedSetIterable iter env x = pure x := by intro _ _; rfl) (hy : (Qm sc)[i]? = some y := by kernel_rfl) (hk : sc.names.lookup y = some .local := by kernel_rfl) (hcl : Zr y = false := by kernel_rfl) (hkk : sc.kind = .function := by kernel_rfl) (hl : (yp.line == pos.line) = true := by rfl) (hn : (csc.names.any fun (n, k) => n == y && (k == .local || k == .cell)) = false := by kernel_rfl) :
  Jk G k sc (.Assign [.Name y yp] (.ListComp elt [⟨tg, iter, ifs, 0⟩] csc pos) spos) (Qx i (Ys cap src b t f)) := by
 rw [← Cg hfd hc]
 exact Vw hi ha (fun x hx => by simpa using List.all_eq_true.mp hxs x hx) ht he hok hs hy hk hcl (EH hkk hk hl hn)
end
noncomputable def Bq (n : Nat) (is : List Nat) (ds : List D) : AEnv := (List.range n).map fun j => ((is.zip ds).lookup j).map T.sh
noncomputable def ZO (n : Nat) (is : List Nat) (f : AEnv → Res Fl) (ds : List D) : FOut := if ds.length = is.length then GM (f (Bq n is ds)) else .stuck
noncomputable def Ui (vn ps : List Str) : List Nat := ps.map fun p => (vn.findIdx? (· == p)).getD vn.length
theorem Bi {vn : List Str} (nd : vn.Nodup) {j : Nat} {x : Str} (hx : vn[j]? = some x) : ∀ (ps : List Str) (ds : List D), (ps.all fun p => vn.contains p) = true → (ps.zip ds).lookup x = ((Ui vn ps).zip ds).lookup j
 | [], _, _ => rfl
 | p :: ps, [], _ => by simp [Ui]
 | p :: ps, d :: ds, h => by
  rw [List.all_cons, Bool.and_eq_true_iff] at h
  have hp : p ∈ vn := by simpa using h.1
  obtain ⟨i, hi⟩ : ∃ i, vn.findIdx? (· == p) = some i := by
   cases q : vn.findIdx? (· == p) with
   | some i => exact ⟨i, rfl⟩
   | none => exact absurd (List.findIdx?_eq_none_iff.mp q p hp) (by simp)
  obtain ⟨h1, h2, _⟩ := List.findIdx?_eq_some_iff_getElem.mp hi
  have h2 : vn[i] = p := beq_iff_eq.mp h2
  have e : Ui vn (p :: ps) = i :: Ui vn ps := by unfold Ui; rw [List.map_cons, hi]; rfl
  rw [e, List.zip_cons_cons, List.zip_cons_cons, List.lookup_cons, List.lookup_cons, Bi nd hx ps ds h.2]
  obtain ⟨j1, j2⟩ := List.getElem?_eq_some_iff.mp hx
  by_cases hxp : x = p
  ·have : j = i := (List.getElem_inj nd).mp (j2.trans (hxp.trans h2.symm))
   simp [hxp, this]
  ·have hji : ¬ j = i := fun q => hxp (by subst q; exact j2.symm.trans h2)
   have a1 : (x == p) = false := by simpa using hxp
   have a2 : (j == i) = false := by simpa using hji
   rw [a1, a2]
theorem Et {sc : Scope} {ps : List Str} {ds : List D} (nd : (Qm sc).Nodup) (hp : (ps.all fun p => (Qm sc).contains p) = true) : Y9 sc ps ds = Bq (Qm sc).length (Ui (Qm sc) ps) ds := by
 unfold Y9 Bq
 apply List.ext_getElem?
 intro j
 rw [List.getElem?_map, List.getElem?_map]
 cases hx : (Qm sc)[j]? with
 | none => rw [List.getElem?_eq_none (by rw [List.length_range]; exact List.getElem?_eq_none_iff.mp hx)]; rfl
 | some x =>
  rw [List.getElem?_range (List.getElem?_eq_some_iff.mp hx).1]
  simp only [Option.map_some]
  rw [Bi nd hx ps ds hp]
noncomputable def Zg (fd : FuncData) : List Str := fd.params.args.map (·.arg)
noncomputable def K6 (fd : FuncData) : Bool := (match fd.body with | .stmts _ => true | _ => false) && fd.closure.isEmpty && fd.globals == mainGlobals && fd.builtins == builtinsNs && WI (Qm fd.scope) && WI (Zg fd) &&
 (Zg fd).all (fun p => (Qm fd.scope).contains p && (fd.scope.names.lookup p == some .local || fd.scope.names.lookup p == some .cell)) && fd.scope.kind == .function && !fd.scope.isCoroutine && !fd.scope.isGenerator
set_option tactic.hygienic true in
theorem fnI {G : Gd} (g : Gr G) {k : Nat} (a : Addr) (n : Nat) (is : List Nat) {f : AEnv → Res Fl} (h : UB G k (Zc G.K a).scope (UG (Zc G.K a)) f) (hbind : ∀ vs : List Value, vs.length = (Zg (Zc G.K a)).length → bindArgs (Zc G.K a) ⟨vs, []⟩ = pure ((Zg (Zc G.K a)).zip vs))
  (hf : Kv G.K a = true := by kernel_rfl) (hc : W.codeIn G.K (Zc G.K a).code (Zc G.K a).qualname = true := by kernel_rfl) (hpl : K6 (Zc G.K a) = true := by kernel_rfl) (hn : (Qm (Zc G.K a).scope).length = n := by kernel_rfl) (hi : Ui (Qm (Zc G.K a).scope) (Zg (Zc G.K a)) = is := by kernel_rfl) :
  Zy G (k + 1) (.ref a) (ZO n is f) := by
 obtain ⟨fo, h1, h2⟩ := FI g hf
 unfold K6 at hpl
 simp only [Bool.and_eq_true, beq_iff_eq, Bool.not_eq_true'] at hpl
 obtain ⟨⟨⟨⟨⟨⟨⟨⟨⟨p1, p2⟩, p3⟩, p4⟩, p5⟩, p6⟩, p7⟩, p8⟩, p9⟩, p10⟩ := hpl
 have p7' : ∀ x ∈ Zg (Zc G.K a), (Qm (Zc G.K a).scope).contains x = true ∧ ((Zc G.K a).scope.names.lookup x = some .local ∨ (Zc G.K a).scope.names.lookup x = some .cell) := fun x hx => by
  have := List.all_eq_true.mp p7 x hx
  simpa using this
 have hb : (Zc G.K a).body = .stmts (UG (Zc G.K a)) := by
  unfold UG
  split at p1
  ·rename_i b e; rw [e]
  ·cases p1
 have := LK g.ok (ps := Zg (Zc G.K a)) h1 h2 (W.codeRec_of g.ok.K hc) hb (by simpa using p2) p3 p4 hbind (fun x hx => (p7' x hx).2) (Yr p6) (Yr p5) p8 p9 p10 h
 have e : IL (Zc G.K a).scope (Zg (Zc G.K a)) f = ZO n is f := by
  funext ds
  unfold IL ZO
  rw [Et (Yr p5) (List.all_eq_true.mpr fun x hx => (p7' x hx).1), hn, hi]
  have hl : is.length = (Zg (Zc G.K a)).length := by rw [← hi]; unfold Ui; simp
  rw [hl]
 rw [e] at this
 exact this
theorem Vp {P : List Value → Prop} {n : Nat} (H : ∀ a, P [a]) (hn : n = 1 := by kernel_rfl) (vs : List Value) (h : vs.length = n) : P vs := by
 subst hn
 obtain ⟨a, rfl⟩ := List.length_eq_one_iff.mp h
 exact H a
theorem U0 {P : List Value → Prop} {n : Nat} (H : ∀ a b, P [a, b]) (hn : n = 2 := by kernel_rfl) (vs : List Value) (h : vs.length = n) : P vs := by
 subst hn
 cases vs with
 | nil => cases h
 | cons a vs => exact Vp (P := fun vs => P (a :: vs)) (H a) rfl vs (Nat.succ.inj h)
theorem H5 {P : List Value → Prop} {n : Nat} (H : ∀ a b c, P [a, b, c]) (hn : n = 3 := by kernel_rfl) (vs : List Value) (h : vs.length = n) : P vs := by
 subst hn
 cases vs with
 | nil => cases h
 | cons a vs => exact U0 (P := fun vs => P (a :: vs)) (H a) rfl vs (Nat.succ.inj h)
theorem F1 {P : List Value → Prop} {n : Nat} (H : ∀ a b c d, P [a, b, c, d]) (hn : n = 4 := by kernel_rfl) (vs : List Value) (h : vs.length = n) : P vs := by
 subst hn
 cases vs with
 | nil => cases h
 | cons a vs => exact H5 (P := fun vs => P (a :: vs)) (H a) rfl vs (Nat.succ.inj h)
theorem LW {P : List Value → Prop} {n : Nat} (H : ∀ a b c d e, P [a, b, c, d, e]) (hn : n = 5 := by kernel_rfl) (vs : List Value) (h : vs.length = n) : P vs := by
 subst hn
 cases vs with
 | nil => cases h
 | cons a vs => exact F1 (P := fun vs => P (a :: vs)) (H a) rfl vs (Nat.succ.inj h)
theorem LP {P : List Value → Prop} {n : Nat} (H : ∀ a b c d e f, P [a, b, c, d, e, f]) (hn : n = 6 := by kernel_rfl) (vs : List Value) (h : vs.length = n) : P vs := by
 subst hn
 cases vs with
 | nil => cases h
 | cons a vs => exact LW (P := fun vs => P (a :: vs)) (H a) rfl vs (Nat.succ.inj h)
end Mine
end

section
set_option Elab.async false
set_option maxRecDepth 100000
namespace Mine
open PySem PyProof.Rows
noncomputable def IN : D → Option T
 | .tup ds => if ds.length ≤ 1000000 then some (.sh (.tup ds.reverse)) else none
 | .list ds => if ds.length ≤ 1000000 then some (.ow true (.list ds.reverse)) else none
 | _ => none
theorem EM (n : Nat) : Builtin.Slice.sliceAdjust none none (-1) (n : Int) = ((n : Int) - 1, -1) := by
 unfold Builtin.Slice.sliceAdjust
 simp
theorem Fk (n : Nat) : Builtin.Slice.slicePlaces ((n : Int) - 1) (-1) (-1) = n := by
 unfold Builtin.Slice.slicePlaces
 have h1 : ¬ ((-1 : Int) > 0) := by decide
 simp only [h1, if_false]
 split
 ·rw [show (- -1 : Int) = 1 by decide, Int.ediv_one]; simp +arith
 ·lia
theorem WH {α β : Type} {f g : α → Option β} : ∀ {l : List α}, (∀ x ∈ l, f x = g x) → l.filterMap f = l.filterMap g
 | [], _ => rfl
 | x :: l, h => by rw [List.filterMap_cons, List.filterMap_cons, h x (.head _), WH fun y hy => h y (.tail _ hy)]
theorem GZ (xs : Array Value) : ((List.range xs.size).filterMap fun (j : Nat) => xs[(((xs.size : Int) - 1) + (j : Int) * (-1)).toNat]?).toArray = xs.toList.reverse.toArray := by
 have e : ∀ j ∈ List.range xs.size, xs[(((xs.size : Int) - 1) + (j : Int) * (-1)).toNat]? = xs[xs.size - 1 - j]? := fun j hj => by
  have := List.mem_range.mp hj
  rw [show (((xs.size : Int) - 1) + (j : Int) * (-1)).toNat = xs.size - 1 - j by lia]
 rw [WH e]
 have h2 : ((List.range xs.size).map fun k => xs.size - 1 - k).filterMap (xs[·]?) = xs.toList.reverse := by
  rw [W.krv_range, List.filterMap_reverse, W.krv_all]
 rw [List.filterMap_map] at h2
 rw [← h2]; rfl
section
variable {prog : Program} {w : World} {A : Around} {E : Value → Shared → Prop} {s : Shared}
theorem OP {sl : Addr} {vk : Value} {n : Nat} {os : Obj} {Q : Int × Int × Nat → Shared → Prop} (hos : s.heap.get? sl = some os) (hds : os.data = .fields #[.none, .none, vk]) (pk : IsPart vk (some (-1)))
  (h : Q ((n : Int) - 1, -1, n) s) : wpAny (model prog w) A (Builtin.Slice.sliceApplied (.ref sl) (pure (n : Int))) Q E s := by
 unfold Builtin.Slice.sliceApplied Builtin.Slice.sliceFields
 refine wpAny_bind (wpAny_bind (wpAny_field hos hds (x := .none) rfl (wpAny_bind (wpAny_field hos hds (x := .none) rfl (wpAny_bind (wpAny_field hos hds (x := vk) rfl (wpAny_pure ?_)))))))
 refine wpAny_bind (YN pk ?_)
 show wpAny _ _ (if ((-1 : Int) == 0) = true then _ else _) _ _ s
 rw [if_neg (by decide)]
 refine wpAny_bind (YN .none (wpAny_bind (YN .none (wpAny_bind (wpAny_pure ?_)))))
 show wpAny _ _ (match Builtin.Slice.sliceAdjust none none (-1) (n : Int) with | (lo, hi) => pure (lo, (-1 : Int), Builtin.Slice.slicePlaces lo hi (-1))) _ _ s
 rw [EM]
 show wpAny _ _ (pure (_, (-1 : Int), Builtin.Slice.slicePlaces _ _ (-1))) _ _ s
 rw [Fk]
 exact wpAny_pure h
theorem Op {t sl : Addr} {items : Array Value} {vk : Value} {os : Obj} {Q : Value → Shared → Prop} (ht : IsTup s.heap t items) (hos : s.heap.get? sl = some os) (hcs : os.cls = .type "slice") (hds : os.data = .fields #[.none, .none, vk]) (pk : IsPart vk (some (-1)))
  (h : Q (.ref s.heap.objs.size) { s with heap := s.heap.push { cls := .type "tuple", data := .seq items.toList.reverse.toArray } })
  (hsz : items.size ≤ sizeLine) : wpAny (model prog w) A (getItem (.ref t) (.ref sl)) Q E s := by
 have hdrop : sizeOk (.seq items.toList.reverse.toArray) := by
  show _ ≤ sizeLine
  rw [List.size_toArray, List.length_reverse, Array.length_toList]
  exact hsz
 have hTs : s.TypeIs (.ref sl) "slice" := ⟨os, hos, hcs⟩
 unfold getItem
 try with_reducible refine wpAny_holding ?_
 first | refine wpAny_bind (wpAny_pure ?_) | skip
 refine wpAny_bind (wpAny_sequenceKey ht.typeIs (by decide) ?_)
 refine wpAny_bind (wpAny_callSpecial?_slot (name := Str.ofString "__getitem__") ht.typeIs slot_tuple_getitem
  (wpAny_call_entry slot_tuple_getitem ht.typeIs entry_tuple_getitem ?_ (args_tuple_getitem _ _)))
 show wpAny _ _ (Builtin.Tuple.tupleItemsOf (.ref t) >>= _) _ _ s
 refine wpAny_bind (tupleItemsOf_ ht ?_)
 refine wpAny_bind (wpAny_typeOf hTs ?_)
 rw [if_pos (by decide)]
 refine wpAny_bind (OP (n := items.size) hos hds pk ?_)
 show wpAny _ _ (if (((items.size : Int) - 1) == 0 && (-1 : Int) == 1 && items.size == items.size) = true then _ else _) _ _ s
 rw [if_neg (by simp), GZ items]
 first
  | exact wpAny_bind (m := Builtin.Tuple.tupleExact _) (wpAny_newObj_type (wpAny_pure ⟨_, rfl, wpAny_pure h⟩) hdrop)
  | exact wpAny_bind (m := Builtin.Tuple.tupleExact _) (wpAny_newObj_type (wpAny_bind (wpAny_pure (wpAny_pure ⟨_, rfl, wpAny_pure h⟩))) hdrop)
  | exact wpAny_bind (wpAny_bind (m := Builtin.Tuple.tupleExact _) (wpAny_newObj_type (wpAny_pure (wpAny_pure ⟨_, rfl, wpAny_pure h⟩)) hdrop))
  | exact wpAny_bind (wpAny_bind (m := Builtin.Tuple.tupleExact _) (wpAny_newObj_type (wpAny_pure ⟨_, rfl, wpAny_pure h⟩) hdrop))
end
theorem RVs.rev {S : Addr → Prop} {h : Heap} : ∀ {vs : List Value} {ds : List D}, RVs S h vs ds → RVs S h vs.reverse ds.reverse
 | [], [], _ => .nil
 | v :: vs, d :: ds, .cons a q => by rw [List.reverse_cons, List.reverse_cons]; exact (RVs.cons a .nil).append q.rev
theorem G0 {x : D} {t : T} (e : IN x = some t) : ∃ ds : List D, ds.length ≤ 1000000 ∧ ((x = .tup ds ∧ t = .sh (.tup ds.reverse)) ∨ (x = .list ds ∧ t = .ow true (.list ds.reverse))) := by
 cases x with
 | tup ds => obtain ⟨h, q⟩ := ifs e; exact ⟨ds, h, .inl ⟨rfl, (Option.some.inj q).symm⟩⟩
 | list ds => obtain ⟨h, q⟩ := ifs e; exact ⟨ds, h, .inr ⟨rfl, (Option.some.inj q).symm⟩⟩
 | _ => exact nn e
theorem Ik {G : Gd} {k : Nat} {sc : Scope} {value e : Expr} {p pos : Pos} {f : AEnv → Res Bv} {g : AEnv → Res (Option Int)} (hv : Qh G k sc value f) (hs : Hb G k sc (some e) g) (hg : ∀ ρ, g ρ = .ok (some (-1)) ρ) :
  Sim G k sc (.Subscript value (.Slice none none (some e) p) pos) (Jq IN f) := by
 intro cx ok ρ S s rel
 show QD G cx sc true (do let a ← eval value cx.env; let b ← holding [a] (eval (.Slice none none (some e) p) cx.env); standAt pos; subscriptTail value (.Slice none none (some e) p) a b) S s _ _
 unfold Jq
 refine QD.bind (hv cx ok ρ S s rel) fun a ρ₁ va h₁ t₁ S₁ _ r₁ ja x₁ v₁ => ?_
 intro Q E out
 refine wpAny_bind (wpAny_holding (wpAny_Slice ?_))
 rw [evalPart_none]
 refine wpAny_pure (wpAny_pure ?_)
 refine hs cx ok ρ₁ S₁ { s with heap := h₁, toks := t₁ } r₁ _ _ ?_
 rw [hg]
 intro vk h₂ t₂ S₂ r₂ pk x₂ v₂
 refine wpAny_bind (wpAny_standAt ?_)
 have ja₂ : Z5 cx sc S₂ h₂ va a := Z5.ext ja x₂ (v₂ rfl)
 obtain ⟨x, hx, out⟩ := out.ob
 obtain ⟨t, ht, out⟩ := out.ob
 have rx := ja₂.rb r₂ hx
 have hsl : subscripted (.Slice none none (some e) p) false va (.ref h₂.objs.size) = operate [va, .ref h₂.objs.size] (getItem va (.ref h₂.objs.size)) := rfl
 have rp := Rel.push (s := { s with heap := h₂ }) r₂ { cls := .type "slice", data := .fields #[.none, .none, vk] }
 have xp : Ext S₂ h₂ S₂ _ := Xr { cls := .type "slice", data := .fields #[.none, .none, vk] }
 have hos : (h₂.push { cls := .type "slice", data := .fields #[.none, .none, vk] }).get? h₂.objs.size = some { cls := .type "slice", data := .fields #[.none, .none, vk] } := Heap.get?_push_size _ rfl
 obtain ⟨ds, hlen, ⟨rfl, rfl⟩ | ⟨rfl, rfl⟩⟩ := G0 ht
 ·obtain ⟨a', o, vs, n, rfl, h1, h2, h3, q⟩ := rx.tup
  have hls : vs.size = ds.length := by rw [← q.length]; simp
  have it : IsTup (h₂.push { cls := .type "slice", data := .fields #[.none, .none, vk] }) a' vs := ⟨o, Heap.get?_push_of_some _ h1, h2, n, h3⟩
  refine tail_any (s := { s with heap := h₂.push { cls := .type "slice", data := .fields #[.none, .none, vk] }, toks := t₂ }) it.typeIs slot_tuple_getitem.lookup ?_ hsl
  refine Op it hos rfl rfl pk ?_ (by rw [hls, sizeLine_eq]; exact omB hlen)
  refine out _ _ t₂ S₂ (Rel.push (s := { s with heap := h₂.push _ }) rp _) ?_ ((x₂.trans xp).trans (Xr _)) fun q => ((v₂ q).trans (r₂.same (XY _))).trans (rp.same (XY _))
  exact .tup (Heap.get?_push_size _ rfl) rfl rfl (by simpa using (q.rev.ext xp).ext (Xr _))
 ·obtain ⟨a', o, vs, n, rfl, h1, h2, h3, q⟩ := rx.list
  have hls : vs.size = ds.length := by rw [← q.length]; simp
  have it : (h₂.push { cls := .type "slice", data := .fields #[.none, .none, vk] }).IsList a' vs := ⟨o, Heap.get?_push_of_some _ h1, h2, n, h3⟩
  refine tail_any (s := { s with heap := h₂.push { cls := .type "slice", data := .fields #[.none, .none, vk] }, toks := t₂ }) it.typeIs slot_list_getitem.lookup ?_ hsl
  refine wpAny_getItem_list_slice it (Heap.IsSliceOf.new ..) .none .none pk (by simp) ?_ (by rw [hls, sizeLine_eq]; exact omB hlen)
  refine out _ _ t₂ S₂ (Rel.push (s := { s with heap := h₂.push _ }) rp _) ?_ ((x₂.trans xp).trans (Xr _)) fun q => ((v₂ q).trans (r₂.same (XY _))).trans (rp.same (XY _))
  refine ZU (s := { s with heap := h₂.push _ }) rp (XY _) (Heap.get?_none_of_le (Nat.le_refl _)) (Heap.get?_push_size _ rfl) ?_
  rw [W.krv_pick]
  simpa using (q.rev.ext xp).ext (Xr _)
end Mine
end

section
set_option Elab.async false
set_option maxRecDepth 100000
namespace Mine
open PySem PyProof.Rows
noncomputable def Iv (x y : D) : Option Bool := match y, x with
 | .str y, .str x => some !(Builtin.Str.occurrences y x 0 y.length 1).isEmpty
 | .list ds, x => (match YM ds, Wy x with
  | some ps, some p => if SeqAt.shaped (.list ps) && SeqAt.shaped p then some (ps.any fun q => PyData.eqv q p) else none
  | _, _ => none)
 | .tup ds, x => (match YM ds, Wy x with
  | some ps, some p => if SeqAt.shaped (.tuple ps) && SeqAt.shaped p then some (ps.any fun q => PyData.eqv q p) else none
  | _, _ => none)
 | _, _ => none
noncomputable def inI (x y : D) : Option T := (Iv x y).map fun b => .sh (.bool b)
theorem CF {ds : List D} {ps : List PyData} (h : YM ds = some ps) : Wy (.list ds) = some (.list ps) := congrArg (Option.map PyData.list) h
theorem HC {ds : List D} {ps : List PyData} (h : YM ds = some ps) : Wy (.tup ds) = some (.tuple ps) := congrArg (Option.map PyData.tuple) h
theorem K2 {ps : List PyData} (h : SeqAt.shaped (.list ps) = true) : PyData.canLayAll0 ps = true ∧ PyData.depthAll ps ≤ 64 := by
 have h1 := SeqAt.canLay_of_shaped h
 have h2 := SeqAt.depth_of_shaped h
 rw [PyData.canLay0] at h1
 rw [PyData.depth] at h2
 exact ⟨h1, by exact omL h2⟩
theorem B8 {ps : List PyData} (h : SeqAt.shaped (.tuple ps) = true) : PyData.canLayAll0 ps = true ∧ PyData.depthAll ps ≤ 64 := by
 have h1 := SeqAt.canLay_of_shaped h
 have h2 := SeqAt.depth_of_shaped h
 rw [PyData.canLay0] at h1
 rw [PyData.depth] at h2
 exact ⟨h1, by exact omL h2⟩
set_option tactic.hygienic true in
theorem II {G : Gd} {cx : Cx} {sc : Scope} (ok : CxOk G cx sc 0) {S : Addr → Prop} {s : Shared} {v w : Value} {x y : D} {b : Bool} (rx : RB S s.heap v x) (ry : RB S s.heap w y) (e : Iv x y = some b) {Q E : Value → Shared → Prop} : (Q (.bool b) s → wpAny G.M cx.A (compareOp .In v w) Q E s) ∧ (Q (.bool !b) s → wpAny G.M cx.A (compareOp .NotIn v w) Q E s) := by
 have room := ok.room.2
 unfold Iv at e
 split at e
 ·cases e
  obtain ⟨_, rfl⟩ := rx.str; obtain ⟨_, rfl⟩ := ry.str
  exact ⟨PySem.P.in_str, PySem.P.notIn_str⟩
 ·rename_i ds
  split at e
  ·rename_i ps p hps hp
   split at e
   ·rename_i hs
    cases e
    simp only [Bool.and_eq_true] at hs
    obtain ⟨bs, rp⟩ := RV.reads rx.any hp
    obtain ⟨as, rl⟩ := RV.reads ry.any (CF hps)
    have h1 := K2 hs.1
    have hu : cx.A.units + 1 + min (PyData.depthAll ps) p.depth < cLine := by unfold cLine; have := Nat.min_le_left (PyData.depthAll ps) p.depth; lia
    exact ⟨SeqAt.in_list_reads rl rp h1.1 (SeqAt.canLay_of_shaped hs.2) hu, SeqAt.notIn_list_reads rl rp h1.1 (SeqAt.canLay_of_shaped hs.2) hu⟩
   ·cases e
  ·cases e
 ·rename_i ds
  split at e
  ·rename_i ps p hps hp
   split at e
   ·rename_i hs
    cases e
    simp only [Bool.and_eq_true] at hs
    obtain ⟨bs, rp⟩ := RV.reads rx.any hp
    obtain ⟨as, rl⟩ := RV.reads ry.any (HC hps)
    have h1 := B8 hs.1
    have hu : cx.A.units + 1 + min (PyData.depthAll ps) p.depth < cLine := by unfold cLine; have := Nat.min_le_left (PyData.depthAll ps) p.depth; lia
    exact ⟨SeqAt.in_tuple_reads rl rp h1.1 (SeqAt.canLay_of_shaped hs.2) hu, SeqAt.notIn_tuple_reads rl rp h1.1 (SeqAt.canLay_of_shaped hs.2) hu⟩
   ·cases e
  ·cases e
 ·cases e
theorem LN {G : Gd} : Op2 G (compareOp .In) inI := by
 intro cx sc ok ρ S s v w x y t rel rx ry e Q E out
 obtain ⟨b, hb, rfl⟩ := Option.map_eq_some_iff.mp e
 exact (II ok rx ry hb).1 (ZS out rel (tk := s.toks) (.bool _))
end Mine
end

section
set_option Elab.async false
set_option maxRecDepth 100000
namespace Mine
open PySem PyProof.Rows
section
variable {prog : Program} {w : World} {A : Around} {E : Value → Shared → Prop} {s : Shared}
end
section
variable {G : Gd} {A : Around} {tg : Expr}
end
end Mine
end

section
set_option Elab.async false
set_option maxRecDepth 100000
namespace Mine
open PySem PyProof.Rows
end Mine
end

section
set_option Elab.async false
set_option maxRecDepth 100000
namespace Mine
open PySem PyProof.Rows PySem.Spec
section
variable {prog : Program} {w : World} {A : Around} {E : Value → Shared → Prop} {s : Shared}
end
end Mine
end

section
set_option Elab.async false
set_option maxRecDepth 100000
namespace Mine
open PySem
noncomputable def QM (k : List Int) : List (List Int) → Option Nat
 | [] => none
 | x :: r => if x = k then some 0 else (QM k r).map (· + 1)
theorem BI {k : List Int} : ∀ {ks : List (List Int)}, k ∉ ks → QM k ks = none
 | [], _ => rfl
 | x :: r, h => by
  rw [List.mem_cons, not_or] at h
  rw [QM, if_neg (Ne.symm h.1), BI h.2]; rfl
set_option tactic.hygienic true in
theorem W8 {k : List Int} : ∀ {ks : List (List Int)} {j : Nat}, QM k ks = some j → ks[j]? = some k
 | x :: r, j, h => by
  rw [QM] at h
  split at h
  ·rename_i e; cases h; rw [e]; rfl
  ·obtain ⟨i, hi, rfl⟩ := Option.map_eq_some_iff.mp h
   rw [List.getElem?_cons_succ]; exact W8 hi
theorem BC {k : List Int} : ∀ {ks : List (List Int)} {j : Nat}, ks.Nodup → ks[j]? = some k → QM k ks = some j
 | x :: r, 0, _, h => by cases h; rw [QM, if_pos rfl]
 | x :: r, j + 1, nd, h => by
  rw [List.getElem?_cons_succ] at h
  have hm := List.mem_of_getElem? h
  rw [QM, if_neg (by rintro rfl; exact (List.nodup_cons.mp nd).1 hm), BC (List.nodup_cons.mp nd).2 h]; rfl
set_option tactic.hygienic true in
theorem Ca {k : List Int} {ks : List (List Int)} (h : QM k ks = none) : k ∉ ks := fun hm => by
 induction ks with
 | nil => cases hm
 | cons x r ih =>
  rw [QM] at h
  split at h
  ·cases h
  ·rename_i hx
   rcases List.mem_cons.mp hm with e | hm
   ·exact hx e.symm
   ·exact ih (by cases q : QM k r with | none => rfl | some j => rw [q] at h; cases h) hm
noncomputable def OF : List D → Option (List Int)
 | [] => some []
 | .int i :: ds => (OF ds).map (i :: ·)
 | _ :: _ => none
noncomputable def Z6 : D → Option (List Int)
 | .tup ds => OF ds
 | _ => none
theorem CA : ∀ {ds : List D} {k : List Int}, OF ds = some k → ds = k.map .int
 | [], k, h => by cases h; rfl
 | d :: ds, k, h => by
  cases d with
  | int i =>
   rw [OF] at h
   obtain ⟨r, hr, rfl⟩ := Option.map_eq_some_iff.mp h
   rw [List.map_cons, ← CA hr]
  | _ => cases h
theorem G8 {d : D} {k : List Int} (h : Z6 d = some k) : d = Wo k := by
 cases d with
 | tup ds => exact congrArg D.tup (CA h)
 | _ => cases h
theorem Bz : ∀ k : List Int, OF (k.map .int) = some k
 | [] => rfl
 | i :: k => by rw [List.map_cons, OF, Bz k]; rfl
theorem Gx (k : List Int) : Z6 (Wo k) = some k := Bz k
section
variable {prog : Program} {w : World} {S : Addr → Prop} {h : Heap}
theorem EA {k : List Int} : ∀ {vs : List Value}, RVs S h vs (k.map .int) → ItemsAre (intKind prog w) k vs := by
 induction k with
 | nil => intro vs q; cases q; exact .nil
 | cons i k ih =>
  intro vs q
  cases q with
  | cons q r =>
   cases q with
   | int i t => exact .cons (by show Value.isInt i (.int i t) = true; simp [Value.isInt]) (ih r)
theorem Db {k : List Int} {a : Addr} (q : RV S h (.ref a) (Wo k)) : IsTupleKey (intKind prog w) h k a := by
 unfold Wo at q
 cases q with
 | tup e hc hd r => exact ⟨_, _, _, e, hc, hd, EA r⟩
end
section
variable {prog : Program} {w : World} {A : Around} {E : Value → Shared → Prop} {s : Shared} {S : Addr → Prop} {d a : Addr} {k : List Int} {ks : List (List Int)} {ds : List D}
theorem EO {Q : Int → Shared → Prop} (hu : A.units < cLine) (hk : RV S s.heap (.ref a) (Wo k)) (h : Q (WY k) { s with toks := s.toks + (k.length + 1) }) : wpAny (model prog w) A (pyHash (.ref a)) Q E s :=
 wpAny_pyHash_tuple (knd := intKind prog w) hu (Db hk) h
theorem Fc {Q : Option Nat → Shared → Prop} (hu : A.units < cLine) (hk : RV S s.heap (.ref a) (Wo k)) (q : DictAt S s.heap d ks ds) (h : Q (QM k ks) s) : wpAny (model prog w) A (dictFind d (.ref a) (WY k)) Q E s := by
 obtain ⟨o, es, n, xs, e, hc, hd, he, hks, nd, hr, rv, hm⟩ := q
 refine wpAny_dictFind_heap (knd := tupleKind (intKind prog w)) (xs := xs) hu (Db hk) e hd he (fun x hx => Db (hr x hx)) (by rw [hks]; exact nd) (fun hno => ?_) (fun j p hj => ?_)
 ·rw [BI] at h
  ·exact h
  ·intro hin
   rw [← hks] at hin
   obtain ⟨x, hx, rfl⟩ := List.mem_map.mp hin
   obtain ⟨j, hj⟩ := List.getElem?_of_mem hx
   exact hno j x.2 hj
 ·rw [BC nd (j := j) (by rw [← hks, List.getElem?_map, hj]; rfl)] at h
  exact h
theorem DictAt.sys (q : DictAt S s.heap d ks ds) : (d == sysModules) = false := by
 obtain ⟨_, _, _, _, _, _, _, _, _, _, _, _, hm⟩ := q; exact hm
theorem DictAt.typeIs (q : DictAt S s.heap d ks ds) : s.TypeIs (.ref d) "dict" := by
 obtain ⟨o, _, _, _, e, hc, _⟩ := q; exact ⟨o, e, hc.1⟩
theorem DictAt.nodict (q : DictAt S s.heap d ks ds) : ∃ o, s.heap.get? d = some o ∧ o.dict = none := by
 obtain ⟨o, _, _, _, e, hc, _⟩ := q; exact ⟨o, e, hc.2⟩
theorem CU (f : Array DictEntry → Array DictEntry) (o : Obj) : (Obj.mapDict f o).dict = o.dict := by
 obtain ⟨c, d, dt, sl⟩ := o
 cases dt <;> rfl
theorem OM (f : Array DictEntry → Array DictEntry) (o : Obj) : (Obj.mapDictKeys f o).dict = o.dict := by
 obtain ⟨c, d, dt, sl⟩ := o
 cases dt <;> rfl
theorem DictAt.val (q : DictAt S s.heap d ks ds) {j : Nat} (hj : QM k ks = some j) : ∃ o es n v b d', s.heap.get? d = some o ∧ o.data = .dict es n ∧ es[j]? = some ⟨WY k, .ref b, v⟩ ∧ ds[j]? = some d' ∧ RV S s.heap v d' := by
 obtain ⟨o, es, n, xs, e, hc, hd, he, hks, nd, hr, rv, hm⟩ := q
 have h1 := W8 hj
 rw [← hks, List.getElem?_map] at h1
 obtain ⟨x, hx, rfl⟩ := Option.map_eq_some_iff.mp h1
 have hl : (xs.map (·.2.2))[j]? = some x.2.2 := by rw [List.getElem?_map, hx]; rfl
 have hlt : j < ds.length := by rw [← rv.length, List.length_map]; exact (List.getElem?_eq_some_iff.mp hx).1
 obtain ⟨v, hv, r⟩ := rv.get (k := j) (List.getElem?_eq_getElem hlt)
 rw [hl] at hv; cases hv
 exact ⟨o, es, n, x.2.2, x.2.1, _, e, hd, by rw [← Array.getElem?_toList, he, List.getElem?_map, hx]; rfl, List.getElem?_eq_getElem hlt, r⟩
theorem IW {Q : Option Value → Shared → Prop} (hu : A.units < cLine) (hk : RV S s.heap (.ref a) (Wo k)) (q : DictAt S s.heap d ks ds)
  (hn : QM k ks = none → Q none { s with toks := s.toks + (k.length + 1) }) (hs : ∀ j v d', QM k ks = some j → ds[j]? = some d' → RV S s.heap v d' → Q (some v) { s with toks := s.toks + (k.length + 1) }) : wpAny (model prog w) A (dictGet d (.ref a)) Q E s := by
 unfold dictGet
 try with_reducible refine wpAny_holding ?_
 refine wpAny_bind (EO hu hk (wpAny_bind (Fc (s := { s with toks := s.toks + (k.length + 1) }) hu hk q ?_)))
 cases hj : QM k ks with
 | none => exact wpAny_pure (hn hj)
 | some j =>
  obtain ⟨o, es, n, v, b, d', e1, e2, e3, e4, e5⟩ := q.val hj
  refine wpAny_bind (wpAny_dictEntries (s := { s with toks := s.toks + (k.length + 1) }) e1 e2 ?_)
  rw [e3]
  exact wpAny_pure (hs j v d' hj e4 e5)
theorem LQ {Q : Value → Shared → Prop} (hu : A.units + 1 < cLine) (hk : RV S s.heap (.ref a) (Wo k)) (q : DictAt S s.heap d ks ds) (h : Q (.bool (QM k ks).isSome) { s with toks := s.toks + (k.length + 1) }) : wpAny (model prog w) A (compareOp .In (.ref a) (.ref d)) Q E s := by
 have hm := q.sys
 show wpAny _ _ (do return .bool (← contains (.ref d) (.ref a))) Q E s
 refine wpAny_bind ?_
 unfold contains
 try with_reducible refine wpAny_holding ?_
 refine wpAny_bind (wpAny_specialOf q.typeIs slot_dict_contains.lookup ?_)
 show wpAny _ _ (if (some (Value.builtin "dict.__contains__") == some Value.none) = true then _ else _) _ E s
 rw [if_neg (by rw [beq_builtin_none]; exact Bool.false_ne_true)]
 refine wpAny_bind (wpAny_callSpecialUnlessNone?_slot (name := Str.ofString "__contains__") q.typeIs slot_dict_contains
  (wpAny_call_entry slot_dict_contains q.typeIs entry_dict_contains ?_ (args_dict_contains _ _)))
 show wpAny _ _ (dictGet d (.ref a) >>= _) _ _ s
 refine wpAny_bind (IW (A := A.in1) hu hk q (fun hj => ?_) fun j v d' hj _ _ => ?_)
 ·rw [hj] at h
  show wpAny _ _ (Builtin.Dict.pendingKey? d (.ref a) >>= _) _ _ _
  exact wpAny_bind (wpAny_pendingKey_other hm (wpAny_pure ⟨_, rfl, wpAny_truthy_bool (wpAny_pure h)⟩))
 ·rw [hj] at h
  show wpAny _ _ (ret (.bool true)) _ _ _
  exact wpAny_pure ⟨_, rfl, wpAny_truthy_bool (wpAny_pure h)⟩
theorem I1 {j : Nat} {Q : Value → Shared → Prop} (hu : A.units + 1 < cLine) (hk : RV S s.heap (.ref a) (Wo k)) (q : DictAt S s.heap d ks ds) (hj : QM k ks = some j) (h : ∀ v d', ds[j]? = some d' → RV S s.heap v d' → Q v { s with toks := s.toks + (k.length + 1) }) : wpAny (model prog w) A (getItem (.ref d) (.ref a)) Q E s := by
 unfold getItem
 try with_reducible refine wpAny_holding ?_
 refine wpAny_bind (wpAny_sequenceKey q.typeIs (by decide) ?_)
 refine wpAny_bind (wpAny_callSpecial?_slot (name := Str.ofString "__getitem__") q.typeIs slot_dict_getitem
  (wpAny_call_entry slot_dict_getitem q.typeIs entry_dict_getitem ?_ (args_dict_getitem _ _)))
 show wpAny _ _ (dictGet d (.ref a) >>= _) _ _ s
 refine wpAny_bind (IW (A := A.in1) hu hk q (fun q => by rw [hj] at q; cases q) fun j' v d' hj' e1 e2 => ?_)
 rw [hj] at hj'; cases hj'
 exact wpAny_pure ⟨v, rfl, wpAny_pure (h v d' e1 e2)⟩
noncomputable def DB (k : List Int) (ks : List (List Int)) : List (List Int) := match QM k ks with
 | some _ => ks
 | none => ks ++ [k]
noncomputable def Ei (k : List Int) (v : D) (ks : List (List Int)) (ds : List D) : List D := match QM k ks with
 | some j => ds.set j v
 | none => ds ++ [v]
theorem KA {α β : Type} {f : α → β} {g : α → α} {g' : β → β} (hg : ∀ x, f (g x) = g' (f x)) (l : List α) (j : Nat) : (l.modify j g).map f = (l.map f).modify j g' := by
 apply List.ext_getElem?
 intro i
 rw [List.getElem?_map, List.getElem?_modify, List.getElem?_modify, List.getElem?_map]
 cases l[i]? with
 | none => rfl
 | some x => simp only [Option.map_eq_map, Option.map_some]; split <;> simp [hg]
theorem Ez {α : Type} (l : List α) (j : Nat) (v : α) : l.modify j (fun _ => v) = l.set j v := by
 apply List.ext_getElem?
 intro i
 rw [List.getElem?_modify, List.getElem?_set]
 by_cases h : j = i
 ·subst h
  by_cases hl : j < l.length
  ·simp [hl]
  ·simp [hl]
 ·simp [h]
structure DStored (S : Addr → Prop) (h : Heap) (d : Addr) (ks' : List (List Int)) (vs' : List Value) (h' : Heap) : Prop where
 but : Heap.SameBut d h h'
 obj : ∃ o es n, h.get? d = some o ∧ o.data = .dict es n
 obj' : ∃ o' es' n', h'.get? d = some o' ∧ o'.data = .dict es' n'
 at_ : ∀ ds', Ext S h S h' → RVs S h vs' ds' → DictAt S h' d ks' ds'
theorem FV {v : Value} (hk : RV S s.heap (.ref a) (Wo k)) (q : DictAt S s.heap d ks ds) {o : Obj} {es : Array DictEntry} {n : Nat} (e : s.heap.get? d = some o) (hd : o.data = .dict es n) :
  (QM k ks = none → ∃ vs, RVs S s.heap vs ds ∧ DStored S s.heap d (ks ++ [k]) (vs ++ [v]) (s.heap.update d (Obj.mapDictKeys (·.push ⟨WY k, .ref a, v⟩)))) ∧
  (∀ j, QM k ks = some j → ∃ vs, RVs S s.heap vs ds ∧ DStored S s.heap d ks (vs.set j v) (s.heap.update d (Obj.mapDict (·.modify j fun e => { e with val := v })))) := by
 obtain ⟨o', es', n', xs, e', hc, hd', he, hks, nd, hr, rv, hm⟩ := q
 rw [e] at e'; cases e'
 rw [hd] at hd'; cases hd'
 refine ⟨fun hj => ⟨_, rv, ?_⟩, fun j hj => ⟨_, rv, ?_⟩⟩
 ·have e₁ : (s.heap.update d (Obj.mapDictKeys (·.push ⟨WY k, .ref a, v⟩))).get? d = _ := Heap.get?_update_self _ e (Obj.isFreed_of_dict (Obj.data_mapDictKeys hd _))
  refine ⟨Heap.SameBut.update .., ⟨o, es, n, e, hd⟩, ⟨_, _, _, e₁, Obj.data_mapDictKeys hd _⟩, fun ds' x rv' => ⟨_, _, _, xs ++ [(k, a, v)], e₁, ⟨(Obj.cls_mapDictKeys _ _).trans hc.1, (OM _ _).trans hc.2⟩, Obj.data_mapDictKeys hd _, ?_, ?_, ?_, ?_, ?_, hm⟩⟩
  ·rw [Array.toList_push, he, List.map_append]; rfl
  ·rw [List.map_append, hks]; rfl
  ·rw [List.nodup_append]
   refine ⟨nd, by simp, ?_⟩
   rintro x hx y hy rfl
   rw [List.mem_singleton.mp hy] at hx
   exact Ca hj hx
  ·intro y hy
   rcases List.mem_append.mp hy with hy | hy
   ·exact (hr y hy).ext x
   ·rw [List.mem_singleton.mp hy]; exact hk.ext x
  ·rw [List.map_append]; exact rv'.ext x
 ·have e₁ : (s.heap.update d (Obj.mapDict (·.modify j fun e => { e with val := v }))).get? d = _ := Heap.get?_update_self _ e (Obj.isFreed_of_dict (Obj.data_mapDict hd _))
  refine ⟨Heap.SameBut.update .., ⟨o, es, n, e, hd⟩, ⟨_, _, _, e₁, Obj.data_mapDict hd _⟩, fun ds' x rv' => ⟨_, _, _, xs.modify j (fun y => (y.1, y.2.1, v)), e₁, ⟨(Obj.cls_mapDict _ _).trans hc.1, (CU _ _).trans hc.2⟩, Obj.data_mapDict hd _, ?_, ?_, nd, ?_, ?_, hm⟩⟩
  ·rw [Array.toList_modify, he]
   exact (KA (f := Ly) (fun _ => rfl) xs j).symm
  ·rw [KA (f := fun y : List Int × Addr × Value => y.1) (g := fun y => (y.1, y.2.1, v)) (g' := id) (fun _ => rfl), hks]
   apply List.ext_getElem?
   intro i
   rw [List.getElem?_modify]
   cases ks[i]? <;> simp
  ·intro y hy
   obtain ⟨i, hi⟩ := List.getElem?_of_mem hy
   rw [List.getElem?_modify] at hi
   cases hx : xs[i]? with
   | none => rw [hx] at hi; cases hi
   | some z =>
    rw [hx] at hi
    have := (hr z (List.mem_of_getElem? hx)).ext x
    simp only [Option.map_eq_map, Option.map_some, Option.some.injEq] at hi
    split at hi <;> (subst hi; exact this)
  ·rw [KA (f := fun y : List Int × Addr × Value => y.2.2) (g := fun y => (y.1, y.2.1, v)) (g' := fun _ => v) (fun _ => rfl), Ez]
   exact rv'.ext x
theorem Lr {v : Value} {Q : Unit → Shared → Prop} (hu : A.units + 1 < cLine) (hk : RV S s.heap (.ref a) (Wo k)) (q : DictAt S s.heap d ks ds) (hz : ks.length ≤ 1000000)
  (hQ : ∀ h' vs, RVs S s.heap vs ds → DStored S s.heap d (DB k ks) (match QM k ks with | some j => vs.set j v | none => vs ++ [v]) h' → Q () { s with heap := h', toks := s.toks + (k.length + 1) }) : wpAny (model prog w) A (setItem (.ref d) (.ref a) v) Q E s := by
 unfold setItem
 try with_reducible refine wpAny_holding ?_
 refine wpAny_bind (wpAny_sequenceKey q.typeIs (by decide) ?_)
 refine wpAny_bind (wpAny_callSpecial?_slot (name := Str.ofString "__setitem__") q.typeIs slot_dict_setitem
  (wpAny_call_entry slot_dict_setitem q.typeIs entry_dict_setitem ?_ (args_dict_setitem _ _ _)))
 show wpAny _ _ (Builtin.Dict.notOrdered "__setitem__" ⟨[.ref d, .ref a, v], []⟩ >>= _) _ _ s
 refine wpAny_bind (wpAny_notOrdered_dict q.typeIs ?_)
 show wpAny _ _ (dictSet d (.ref a) v >>= _) _ _ s
 refine wpAny_bind ?_
 unfold dictSet
 try with_reducible refine wpAny_holding ?_
 refine wpAny_bind (EO (A := A.in1) hu hk ?_)
 unfold dictSetHashed
 try with_reducible refine wpAny_holding ?_
 refine wpAny_bind (Fc (A := A.in1) (s := { s with toks := s.toks + (k.length + 1) }) hu hk q ?_)
 obtain ⟨o, es, n, xs, e, hc, hd, he, hks, nd, hr, rv, hm⟩ := id q
 obtain ⟨f1, f2⟩ := FV (s := { s with toks := s.toks + (k.length + 1) }) (v := v) hk q e hd
 unfold DB at hQ
 cases hj : QM k ks with
 | none =>
  rw [hj] at hQ
  obtain ⟨vs, r1, r2⟩ := f1 hj
  refine wpAny_bind (wpAny_rule (wpAny_updateDictKeys (hz := ?_) (s := { s with toks := s.toks + (k.length + 1) }) e hd (wpAny_pure ⟨.none, rfl, wpAny_pure (hQ _ vs r1 r2)⟩)))
  rw [← Array.length_toList, he, List.length_map, sizeLine_eq]
  have : xs.length = ks.length := by rw [← hks, List.length_map]
  exact Nat.le_trans (Nat.le_of_eq this) (Nat.le_trans hz (by decide))
 | some j =>
  rw [hj] at hQ
  obtain ⟨vs, r1, r2⟩ := f2 j hj
  exact wpAny_bind (wpAny_rule (wpAny_bind (wpAny_updateDict (s := { s with toks := s.toks + (k.length + 1) }) e hd (wpAny_point (wpAny_pure ⟨.none, rfl, wpAny_pure (hQ _ vs r1 r2)⟩)))))
theorem Dw {v : Value} {R : Result → Shared → Prop} (hu : A.units + 1 < cLine) (hk : RV S s.heap (.ref a) (Wo k)) (q : DictAt S s.heap d ks ds) (hz : ks.length ≤ 1000000)
  (hs : ∀ j u d', QM k ks = some j → ds[j]? = some d' → RV S s.heap u d' → R (.ok (.ret u)) { s with toks := s.toks + (k.length + 1) })
  (hn : QM k ks = none → ∀ h' vs, RVs S s.heap vs ds → DStored S s.heap d (ks ++ [k]) (vs ++ [v]) h' → R (.ok (.ret v)) { s with heap := h', toks := s.toks + (k.length + 1) }) :
  wpAny (model prog w) A.in1 (Builtin.«dict.setdefault» ⟨[.ref d, .ref a, v], []⟩) (fun fin s' => ∃ v, fin = Fin.done (.ret v) ∧ R (.ok (.ret v)) s') (fun e s' => R (.error e) s') s := by
 obtain ⟨o, es, n, xs, e, hc, hd, he, hks, nd, hr, rv, hm⟩ := id q
 unfold Builtin.«dict.setdefault»
 refine wpAny_bind ?_
 unfold Builtin.Dict.keyAndDefault
 refine wpAny_bind (wpAny_notOrdered_dict q.typeIs ?_)
 show wpAny _ _ (pure (d, Value.ref a, some v)) _ _ s
 refine wpAny_pure ?_
 show wpAny _ _ (if (d == sysModules) = true then _ else (dictSetDefault d (.ref a) v >>= _)) _ _ s
 rw [if_neg (by rw [hm]; exact Bool.false_ne_true)]
 refine wpAny_bind ?_
 unfold dictSetDefault
 try with_reducible refine wpAny_holding ?_
 refine wpAny_bind (EO (A := A.in1) hu hk (wpAny_bind (Fc (A := A.in1) (s := { s with toks := s.toks + (k.length + 1) }) hu hk q ?_)))
 obtain ⟨f1, f2⟩ := FV (s := { s with toks := s.toks + (k.length + 1) }) (v := v) hk q e hd
 cases hj : QM k ks with
 | none =>
  obtain ⟨vs, r1, r2⟩ := f1 hj
  refine wpAny_bind (wpAny_rule (wpAny_bind (wpAny_updateDictKeys (hz := ?_) (s := { s with toks := s.toks + (k.length + 1) }) e hd (wpAny_pure (wpAny_pure ⟨_, rfl, hn hj _ vs r1 r2⟩)))))
  rw [← Array.length_toList, he, List.length_map, sizeLine_eq]
  have : xs.length = ks.length := by rw [← hks, List.length_map]
  exact Nat.le_trans (Nat.le_of_eq this) (Nat.le_trans hz (by decide))
 | some j =>
  obtain ⟨o', es', n', u, b, d', e1, e2, e3, e4, e5⟩ := q.val hj
  refine wpAny_bind (wpAny_dictEntries (s := { s with toks := s.toks + (k.length + 1) }) e1 e2 ?_)
  rw [e3]
  exact wpAny_bind (wpAny_rule (wpAny_pure (wpAny_pure ⟨_, rfl, hs j u d' hj e4 e5⟩)))
end
end Mine
end

section
set_option Elab.async false
set_option maxRecDepth 100000
namespace Mine
open PySem PyProof.Rows
noncomputable def JO (ρ : AEnv) (i : Nat) : Option (List (List Int) × List D) := match ρ[i]? with
 | some (some (.ow _ (.dict ks ds))) => some (ks, ds)
 | _ => none
set_option tactic.hygienic true in
theorem OH {ρ : AEnv} {i : Nat} {p : List (List Int) × List D} (h : JO ρ i = some p) : ∃ m, ρ[i]? = some (some (.ow m (.dict p.1 p.2))) := by
 unfold JO at h
 split at h
 ·rename_i m ks ds e; cases h; exact ⟨m, e⟩
 ·cases h
noncomputable def YC (ρ : AEnv) (i : Nat) : Option (List (List Int) × List D) := match ρ[i]? with
 | some (some (.ow true (.dict ks ds))) => if ks.length ≤ 1000000 then some (ks, ds) else none
 | _ => none
set_option tactic.hygienic true in
theorem Wm {ρ : AEnv} {i : Nat} {p : List (List Int) × List D} (h : YC ρ i = some p) : ρ[i]? = some (some (.ow true (.dict p.1 p.2))) ∧ p.1.length ≤ 1000000 := by
 unfold YC at h
 split at h
 ·rename_i ks ds e
  split at h
  ·rename_i hl; cases h; exact ⟨e, hl⟩
  ·cases h
 ·cases h
section
variable {G : Gd} {cx : Cx} {sc : Scope} {ρ : AEnv} {S : Addr → Prop} {h : Heap} {k : Nat}
theorem Rel.dict {i : Nat} {x : Str} {m : Bool} {ks : List (List Int)} {ds : List D} (r : Rel G cx sc ρ S h) (hx : (Qm sc)[i]? = some x) (e : ρ[i]? = some (some (.ow m (.dict ks ds)))) :
  ∃ a, Var cx.env h x (.ref a) ∧ DictAt S h a ks ds ∧ cx.env.locals ≠ a ∧ ¬ S a := by
 obtain ⟨v, hv, a, rfl, n1, ow, n2⟩ := r.vars i x _ hx e
 refine ⟨a, hv, ow, ?_, n1⟩
 rintro rfl
 exact r.dok i x m ks ds hx e hv
theorem RB.row {v : Value} {d : D} {kk : List Int} (q : RB S h v d) (e : Z6 d = some kk) : ∃ a, v = .ref a ∧ RV S h (.ref a) (Wo kk) := by
 rw [G8 e] at q
 have q := q.rv fun ds e => by cases e
 unfold Wo at q ⊢
 cases q with
 | tup e hc hd r => exact ⟨_, rfl, .tup e hc hd r⟩
theorem CxOk.units (ok : CxOk G cx sc k) : cx.A.units + 1 < cLine := by
 have := ok.room.2
 show cx.A.units + 1 < 9900
 lia
theorem Hr {δ : Type} {s : Shared} {l : Expr} {x : Str} {p : Pos} {f : AEnv → Res Bv} {i : Nat} {n : Value → Value → Sem δ} {β : Type} {J : (Addr → Prop) → Heap → δ → β → Prop} {K : List Int → List (List Int) → List D → AEnv → Res β} (hl : Qh G k sc l f) (hx : (Qm sc)[i]? = some x) (hd : (x == ("__debug__" : Str)) = false) (hn : (x == ("__classdict__" : Str)) = false) (ok : CxOk G cx sc k) (rel : Rel G cx sc ρ S s.heap)
  (h : ∀ ρ' S' h' tk a d kk ks ds, Rel G cx sc ρ' S' h' → RV S' h' (.ref a) (Wo kk) → DictAt S' h' d ks ds → QD G cx sc true (n (.ref a) (.ref d)) S' { s with heap := h', toks := tk } J (K kk ks ds ρ')) :
  QD G cx sc true (do let a ← eval l cx.env; let b ← holding [a] (eval (.Name x p) cx.env); n a b) S s J ((f ρ).bind fun b ρ₁ => ob (b.get ρ₁) fun y => ob (JO ρ₁ i) fun q => ob (Z6 y) fun kk => K kk q.1 q.2 ρ₁) := by
 refine QD.bind (hl cx ok ρ S s rel) fun b ρ₁ va h₁ t₁ S₁ _ rel₁ ja x₁ v₁ => QD.ob fun y hy => QD.ob fun q hq => QD.ob fun kk hk => ?_
 obtain ⟨m, e⟩ := OH hq
 obtain ⟨a, rfl, rv⟩ := (Z5.rb ja rel₁ hy).row hk
 obtain ⟨d, hv, da, _, _⟩ := rel₁.dict hx e
 intro Q E out
 refine wpAny_bind (wpAny_holding (wpAny_Name (Ze (ok.mono (Nat.zero_le _)) hv hn rfl ?_) hd))
 exact h ρ₁ S₁ h₁ t₁ a d kk q.1 q.2 rel₁ rv da Q E out
theorem HY {δ : Type} {s : Shared} {l : Expr} {x : Str} {p : Pos} {f : AEnv → Res Bv} {i : Nat} {n : Value → Value → Sem δ} {β : Type} {J : (Addr → Prop) → Heap → δ → β → Prop} {K : List Int → List (List Int) → List D → AEnv → Res β} (hl : Qh G k sc l f) (hx : (Qm sc)[i]? = some x) (hd : (x == ("__debug__" : Str)) = false) (hn : (x == ("__classdict__" : Str)) = false) (ok : CxOk G cx sc k) (rel : Rel G cx sc ρ S s.heap)
  (h : ∀ ρ' S' h' tk a d kk ks ds, Rel G cx sc ρ' S' h' → RV S' h' (.ref a) (Wo kk) → DictAt S' h' d ks ds → QD G cx sc true (n (.ref d) (.ref a)) S' { s with heap := h', toks := tk } J (K kk ks ds ρ')) :
  QD G cx sc true (do let b ← eval (.Name x p) cx.env; let a ← holding [b] (eval l cx.env); n b a) S s J (ob (JO ρ i) fun _ => (f ρ).bind fun b ρ₁ => ob (b.get ρ₁) fun y => ob (JO ρ₁ i) fun q => ob (Z6 y) fun kk => K kk q.1 q.2 ρ₁) := by
 refine QD.ob fun q₀ hq₀ => ?_
 obtain ⟨m₀, e₀⟩ := OH hq₀
 obtain ⟨d₀, hv₀, _, _, _⟩ := rel.dict hx e₀
 intro Q E out
 refine wpAny_bind (wpAny_Name (Ze (ok.mono (Nat.zero_le _)) hv₀ hn rfl ?_) hd)
 refine (QD.bind (J' := J) (k := fun a => n (.ref d₀) a) (QD.holding (hl cx ok ρ S s rel)) fun b ρ₁ va h₁ t₁ S₁ _ rel₁ ja x₁ v₁ => QD.ob fun y hy => QD.ob fun q hq => QD.ob fun kk hk => ?_) Q E out
 obtain ⟨m, e⟩ := OH hq
 obtain ⟨a, rfl, rv⟩ := (Z5.rb ja rel₁ hy).row hk
 obtain ⟨d, hv, da, _, _⟩ := rel₁.dict hx e
 cases Var.inj hv (v₁ rfl x _ hv₀)
 exact h ρ₁ S₁ h₁ t₁ a _ kk q.1 q.2 rel₁ rv da
noncomputable def BN (neg : Bool) (f : AEnv → Res Bv) (i : Nat) : AEnv → Res Bool := fun ρ => (f ρ).bind fun b ρ₁ => ob (b.get ρ₁) fun y => ob (JO ρ₁ i) fun q => ob (Z6 y) fun kk => .ok ((QM kk q.1).isSome != neg) ρ₁
noncomputable def WQ (i : Nat) (f : AEnv → Res Bv) : AEnv → Res T := fun ρ => ob (JO ρ i) fun _ => (f ρ).bind fun b ρ₁ => ob (b.get ρ₁) fun y => ob (JO ρ₁ i) fun q => ob (Z6 y) fun kk => ob (QM kk q.1) fun j => ob q.2[j]? fun d => .ok (.sh d) ρ₁
theorem H4 {s : Shared} {a d : Addr} {kk : List Int} {ks : List (List Int)} {ds : List D} (ok : CxOk G cx sc k) (rel : Rel G cx sc ρ S s.heap) (rv : RV S s.heap (.ref a) (Wo kk)) (da : DictAt S s.heap d ks ds) :
  QD G cx sc true (compareOp .In (.ref a) (.ref d)) S s (fun S' h' v t => Ul cx S' h' v t) (.ok (.sh (.bool ((QM kk ks).isSome != false))) ρ) := fun Q E out => by
 refine LQ ok.units rv da ?_
 have := out (.bool ((QM kk ks).isSome != false)) s.heap (s.toks + (kk.length + 1)) S rel (.bool _) (Ext.refl ..) fun _ => QR.refl _ _
 rw [Bool.bne_false] at this; exact this
end
section
variable {G : Gd} {k : Nat} {sc : Scope}
theorem V4 {l : Expr} {x : Str} {p pos : Pos} {f : AEnv → Res Bv} {i : Nat} (hl : Qh G k sc l f) (hx : (Qm sc)[i]? = some x := by kernel_rfl) (hd : (x == ("__debug__" : Str)) = false := by kernel_rfl) (hn : (x == ("__classdict__" : Str)) = false := by kernel_rfl) (hm : behindInMarks .In (.Name x p) = false := by kernel_rfl) : Kk G k sc (.Compare l [.In] [.Name x p] pos) (BN false f i) := by
 intro cx ok ρ S s rel
 rw [isTrue_Compare1, markedBehindIn_of_false hm]
 exact Hr (K := fun kk ks _ ρ₁ => .ok ((QM kk ks).isSome != false) ρ₁) hl hx hd hn ok rel fun ρ' S' h' tk a d kk ks ds r rv da => QD.standAt (KD (vs := fun c => [c]) (QD.operate (vs := [.ref a, .ref d]) (H4 (s := { s with heap := h', toks := tk }) ok r rv da)))
theorem V9 {l : Expr} {x : Str} {p pos : Pos} {f : AEnv → Res Bv} {i : Nat} (hl : Qh G k sc l f) (hx : (Qm sc)[i]? = some x := by kernel_rfl) (hd : (x == ("__debug__" : Str)) = false := by kernel_rfl) (hn : (x == ("__classdict__" : Str)) = false := by kernel_rfl) (hs : ∀ o i, subscripted l false o i = operate [o, i] (getItem o i) := by intro _ _; rfl) :
  Sim G k sc (.Subscript (.Name x p) l pos) (WQ i f) := by
 intro cx ok ρ S s rel
 show QD G cx sc true (do let a ← eval (.Name x p) cx.env; let b ← holding [a] (eval l cx.env); standAt pos; subscriptTail (.Name x p) l a b) S s _ _
 refine HY (K := fun kk ks ds ρ₁ => ob (QM kk ks) fun j => ob ds[j]? fun d => Res.ok (T.sh d) ρ₁) hl hx hd hn ok rel fun ρ' S' h' tk a d kk ks ds r rv da => ?_
 refine QD.standAt (QD.ob fun j hj => QD.ob fun d'' hd'' => ?_)
 intro Q E out
 refine tail_any (s := { s with heap := h', toks := tk }) da.typeIs slot_dict_getitem.lookup ?_ (hs _ _)
 refine I1 (s := { s with heap := h', toks := tk }) ok.units rv da hj fun v d' e1 e2 => ?_
 obtain rfl := Option.some.inj (hd''.symm.trans e1)
 exact out v h' _ S' r e2 (Ext.refl ..) fun _ => QR.refl _ _
theorem Vj {o : Obj} {es : Array DictEntry} {n : Nat} (h : o.data = .dict es n) : ¬ Imm o := by
 rintro (⟨_, vs, m, q⟩ | ⟨vs, q⟩) <;> (rw [h] at q; cases q)
theorem Rel.stored {cx : Cx} {ρ : AEnv} {S : Addr → Prop} {h h' : Heap} {i : Nat} {x : Str} {ks ks' : List (List Int)} {ds ds' : List D} {a : Addr} {vs : List Value} (r : Rel G cx sc ρ S h) (bh : G.B.StaysIn cx.h₀) (hx : (Qm sc)[i]? = some x) (e : ρ[i]? = some (some (.ow true (.dict ks ds)))) (hv : Var cx.env h x (.ref a)) (q : DStored S h a ks' vs h') (rv : RVs S h vs ds') :
  Rel G cx sc (ρ.set i (some (.ow true (.dict ks' ds')))) S h' ∧ Ext S h S h' ∧ QR cx.env h h' := by
 obtain ⟨but, ⟨o, es, n, e1, e2⟩, ⟨o', es', n', e3, e4⟩, at_⟩ := q
 obtain ⟨a', hv', _, hl, _⟩ := r.dict hx e
 cases Var.inj hv hv'
 exact r.turn bh hx e hv e1 (Vj e2) (by rw [e2]; intro v q; cases q) hl but e3 (fun _ => ⟨es', n', e4⟩) (fun _ => ⟨ks, ds, rfl⟩) fun x' => at_ ds' x' rv
theorem RVs.dset {S : Addr → Prop} {h : Heap} {vs : List Value} {ds : List D} {v : Value} {d : D} {kk : List Int} {ks : List (List Int)} (r : RVs S h vs ds) (q : RV S h v d) : RVs S h (match QM kk ks with | some j => vs.set j v | none => vs ++ [v]) (Ei kk d ks ds) := by
 unfold Ei
 cases QM kk ks with
 | some j => exact RVs.set q r j
 | none => exact RVs.append (.cons q .nil) r
noncomputable def Bf (i : Nat) (f : AEnv → Res Bv) (g : AEnv → Res T) : AEnv → Res Fl := fun ρ => (g ρ).bind fun t ρ₁ => ob (YC ρ₁ i) fun _ => (f ρ₁).bind fun b ρ₂ => ob (b.get ρ₂) fun y => ob (YC ρ₂ i) fun q => ob (Z6 y) fun kk => .ok .next (ρ₂.set i (some (.ow true (.dict (DB kk q.1) (Ei kk t.val q.1 q.2)))))
theorem Cf {x : Str} {p ip pos : Pos} {ix value : Expr} {i : Nat} {f : AEnv → Res Bv} {g : AEnv → Res T} (hf : Qh G k sc ix f) (hg : Sim G k sc value g) (hx : (Qm sc)[i]? = some x := by kernel_rfl) (hd : (x == ("__debug__" : Str)) = false := by kernel_rfl) (hn : (x == ("__classdict__" : Str)) = false := by kernel_rfl)
  (hs : ∀ env : Env, env.scope = sc → swapsWithSole [.Subscript (.Name x p) ix ip] value pos.line env = pure false := by intro _ _; rfl) (hw : ∀ env : Env, swappedStores [.Subscript (.Name x p) ix ip] value env = pure none := by intro _; rfl) :
  Jk G k sc (.Assign [.Subscript (.Name x p) ix ip] value pos) (Bf i f g) := by
 intro cx ok fn ρ S s r Q E out
 rw [exec_Assign]
 refine wpAny_bind (wpAny_standAt ?_)
 rw [hs cx.env ok.hsc]
 refine wpAny_bind (wpAny_pure ?_)
 rw [if_neg (by decide)]
 refine wpAny_bind ((hg cx ok ρ S s r).shared _ _ ?_)
 refine out.step0S fun t ρ₁ out v h₁ t₁ S₁ r₁ j₁ x₁ v₁ => ?_
 rw [hw]
 refine wpAny_bind (wpAny_pure ?_)
 show wpAny _ _ (do assignAll v [assign (.Subscript (.Name x p) ix ip) cx.env]; pure .next) Q E _
 refine wpAny_bind ?_
 show wpAny _ _ (assign (.Subscript (.Name x p) ix ip) cx.env v) _ E _
 rw [arm_assign_Subscript]
 obtain ⟨q₀, h0, out⟩ := out.ob
 obtain ⟨t0, l0⟩ := Wm h0
 obtain ⟨a, hv, _, _, _⟩ := r₁.dict hx t0
 refine wpAny_bind (wpAny_holding (wpAny_Name (Ze (ok.mono (Nat.zero_le _)) hv hn rfl ?_) hd))
 refine wpAny_bind (wpAny_holding (hf cx ok ρ₁ S₁ { s with heap := h₁, toks := t₁ } r₁ _ _ (out.step x₁ fun b ρ₂ out iv h₂ t₂ S₂ r₂ j₂ x₂ v₂ => ?_)))
 refine wpAny_bind (wpAny_standAt ?_)
 obtain ⟨y, hy, out⟩ := out.ob
 obtain ⟨q, h1, out⟩ := out.ob
 obtain ⟨kk, hk, out⟩ := out.ob
 obtain ⟨ak, rfl, rvk⟩ := (Z5.rb j₂ r₂ hy).row hk
 obtain ⟨e1, l1⟩ := Wm h1
 obtain ⟨a', hv', da, _, _⟩ := r₂.dict hx e1
 cases Var.inj hv' (v₂ rfl x _ hv)
 refine wpAny_bind (wpAny_holding (Lr (s := { s with heap := h₂, toks := t₂ }) ok.units rvk da l1 fun h₃ vs rvs st => ?_))
 obtain ⟨r₃, x₃, v₃⟩ := r₂.stored fn.bh hx e1 hv' st (rvs.dset (j₁.ext x₂))
 exact wpAny_release (wpAny_pure (out .next _ _ S₂ r₃ trivial ((x₁.trans x₂).trans x₃) fun z => by cases z))
noncomputable def D7 (i : Nat) : AEnv → Res Fl := fun ρ => .ok .next (ρ.set i (some (.ow true (.dict [] []))))
theorem OS (hG : G.Ok) {x : Str} {p ep pos : Pos} {i : Nat} (hx : (Qm sc)[i]? = some x := by kernel_rfl) (hk : sc.names.lookup x = some .local ∨ sc.names.lookup x = some .cell := by first | exact .inl (by kernel_rfl) | exact .inr (by kernel_rfl))
  (hcl : Zr x = false := by kernel_rfl) (hs : ∀ env : Env, env.scope = sc → swapsWith (.Dict [] [] ep) (some (.Name x p)) pos.line env = pure false := by intro _ _; rfl) : Jk G k sc (.Assign [.Name x p] (.Dict [] [] ep) pos) (D7 i) := by
 intro cx ok fn ρ S s r Q E out
 rw [exec_Assign_Name _ _ _ _ _ (hs cx.env ok.hsc)]
 refine wpAny_bind (wpAny_standAt (wpAny_bind ?_))
 rw [eval_Dict_empty]
 refine wpAny_bind (wpAny_standAt ?_)
 unfold newDict
 refine wpAny_newObj_type ?_ (by unfold sizeOk; simp)
 have hn : s.heap.get? s.heap.objs.size = none := Heap.get?_none_of_le (Nat.le_refl _)
 have he : (s.heap.push { cls := .type "dict", data := .dict #[] }).get? s.heap.objs.size = some { cls := .type "dict", data := .dict #[] } := Heap.get?_push_size _ rfl
 have kp : ∀ b o, s.heap.get? b = some o → (s.heap.push { cls := .type "dict", data := .dict #[] }).get? b = some o := fun b o e => Heap.get?_push_of_some _ e
 have r₁ := r.keeps kp
 have hsz : 3 < s.heap.objs.size := by
  obtain ⟨o, es, ep, e, _⟩ := hG.g
  exact Heap.lt_size (r.base _ _ e)
 refine wpAny_bind (wpAny_standAt ?_)
 refine wpAny_bind (UU (s := { s with heap := s.heap.push { cls := .type "dict", data := .dict #[] } }) (t := .ow true (.dict [] [])) (ok.mono (Nat.zero_le _)) fn r₁ hx hk (.inl hcl) ⟨_, rfl, ?_, ?_, r.keep.none hn, fun y hdy q => ?_, fun _ => ?_⟩ _ _ ?_)
 ·intro q; obtain ⟨o, e⟩ := r.sdom _ q; rw [hn] at e; cases e
 ·have hne : s.heap.objs.size ≠ sysModules := by unfold sysModules; exact Nat.ne_of_gt (Nat.lt_of_lt_of_le (by decide) hsz)
  exact ⟨_, _, _, [], he, ⟨rfl, rfl⟩, rfl, rfl, rfl, .nil, (fun x hx => by cases hx), .nil, by simpa using hne⟩
 ·obtain ⟨o, e⟩ := r.live y _ hdy (Var.of_kp (.of_keeps kp) r.ns r.cells q)
  rw [hn] at e; cases e
 ·rintro q
  obtain ⟨m, o, _, _, e, _⟩ := r.ns
  rw [← q, hn] at e; cases e
 ·intro _ h₂ t₂ S₂ r₂ _ x₂ v₂
  exact wpAny_pure (out .next h₂ t₂ S₂ r₂ trivial ((Ext.of_keeps kp).trans x₂) fun z => by cases z)
noncomputable def UF (i : Nat) (f g : AEnv → Res Bv) : AEnv → Res T := fun ρ => ob (YC ρ i) fun _ => (f ρ).bind fun b ρ₁ => (g ρ₁).bind fun c ρ₂ => ob (b.get ρ₂) fun y => ob (c.get ρ₂) fun z => if ZK ρ₂ c = true then ob (YC ρ₂ i) fun q => ob (Z6 y) fun kk =>
 (QM kk q.1).elim (.ok (.sh z) (ρ₂.set i (some (.ow true (.dict (q.1 ++ [kk]) (q.2 ++ [z])))))) fun j => ob q.2[j]? fun d => .ok (.sh d) ρ₂ else .stuck
set_option tactic.hygienic true in
theorem Z5.rvS {cx : Cx} {ρ : AEnv} {S : Addr → Prop} {h : Heap} {v : Value} {b : Bv} {d : D} (q : Z5 cx sc S h v b) (r : Rel G cx sc ρ S h) (hs : ZK ρ b = true) (e : b.get ρ = some d) : RV S h v d := by
 cases b with
 | val d' => cases e; exact q
 | var i =>
  obtain ⟨y, hy, hv⟩ := q
  simp only [ZK] at hs
  simp only [Bv.get] at e
  split at hs
  ·rename_i d' ht
   rw [ht] at e
   cases e
   obtain ⟨w, hw, tv⟩ := r.vars i y _ hy ht
   rw [Var.inj hv hw]; exact tv
  ·cases hs
theorem VS {x : Str} {p apos pos : Pos} {e1 e2 : Expr} {i : Nat} {f g : AEnv → Res Bv} (h1 : Qh G k sc e1 f) (h2 : Qh G k sc e2 g) (hx : (Qm sc)[i]? = some x := by kernel_rfl) (hd : (x == ("__debug__" : Str)) = false := by kernel_rfl) (hn : (x == ("__classdict__" : Str)) = false := by kernel_rfl)
  (hu : ∀ env, backTo pos (starEach [e1, e2] env) = [(false, eval e1 env), (false, eval e2 env)] := by intro _; rfl) (hline : (apos.endLine == pos.line) = true := by kernel_rfl) : YH G k sc (.Call (.Attribute (.Name x p) "setdefault" apos) [e1, e2] [] pos) (UF i f g) := by
 intro cx ok fn ρ S s r Q E out
 obtain ⟨q₀, h0, out⟩ := out.ob
 obtain ⟨t0, l0⟩ := Wm h0
 obtain ⟨a, hv, da, _, _⟩ := r.dict hx t0
 refine wpAny_Call_method rfl (by rw [hu]; rfl) hline F.plainAttrs_dict F.slot_dict_setdefault F.type_dict_setdefault ?_
 refine wpAny_Name (Ze (ok.mono (Nat.zero_le _)) hv hn rfl ?_) hd
 refine ⟨da.typeIs, fun b eb => (by cases eb; exact da.nodict), ?_⟩
 rw [hu]
 refine method2_meetsIn F.slot_dict_setdefault F.entry_dict_setdefault ?_
 refine h1 cx ok ρ S s r _ _ (out.step0 fun b ρ₁ out v₁ h₁ t₁ S₁ r₁ j₁ x₁ w₁ => ?_)
 refine h2 cx ok ρ₁ S₁ { s with heap := h₁, toks := t₁ } r₁ _ _ (out.step x₁ fun c ρ₂ out v₂ h₂ t₂ S₂ r₂ j₂ x₂ w₂ => ?_)
 obtain ⟨y, hy, out⟩ := out.ob
 obtain ⟨z, hz, out⟩ := out.ob
 obtain ⟨hs, out⟩ := out.when
 obtain ⟨q, h3, out⟩ := out.ob
 obtain ⟨kk, hk, out⟩ := out.ob
 obtain ⟨ak, rfl, rvk⟩ := (Z5.rb (Z5.ext j₁ x₂ (w₂ rfl)) r₂ hy).row hk
 have rz := Z5.rvS j₂ r₂ hs hz
 obtain ⟨e3, l3⟩ := Wm h3
 obtain ⟨a', hv', da', _, _⟩ := r₂.dict hx e3
 cases Var.inj hv' (w₂ rfl x _ (w₁ rfl x _ hv))
 refine ⟨da'.typeIs, F.args_dict_setdefault_3 _ _ _, _, .of_wp (S := fun A R s => ∃ S kk ks ds, A.units + 1 < cLine ∧ RV S s.heap (.ref ak) (Wo kk) ∧ DictAt S s.heap a ks ds ∧ ks.length ≤ 1000000 ∧
  (∀ j u d', QM kk ks = some j → ds[j]? = some d' → RV S s.heap u d' → R (.ok (.ret u)) { s with toks := s.toks + (kk.length + 1) }) ∧
  (QM kk ks = none → ∀ h' vs, RVs S s.heap vs ds → DStored S s.heap a (ks ++ [kk]) (vs ++ [v₂]) h' → R (.ok (.ret v₂)) { s with heap := h', toks := s.toks + (kk.length + 1) })) (fun A R s hh => by obtain ⟨S, kk, ks, ds, z1, z2, z3, z4, z5, z6⟩ := hh; exact Dw z1 z2 z3 z4 z5 z6), S₂, kk, q.1, q.2, ok.units, rvk, da', l3, fun j u d' hj hd' ru => ?_, fun hj h' vs rvs st => ?_⟩
 ·rw [hj] at out
  obtain ⟨d, hd, out⟩ := Out.ob out
  obtain rfl := Option.some.inj (hd.symm.trans hd')
  exact out u h₂ _ S₂ r₂ ru (x₁.trans x₂) fun z => (w₁ z).trans (w₂ z)
 ·rw [hj] at out
  obtain ⟨r₃, x₃, v₃⟩ := r₂.stored fn.bh hx e3 hv' st (RVs.append (.cons rz .nil) rvs)
  exact out v₂ h' _ S₂ r₃ (rz.ext x₃) ((x₁.trans x₂).trans x₃) fun z => ((w₁ z).trans (w₂ z)).trans v₃
end
end Mine
end

section
set_option Elab.async false
set_option maxRecDepth 100000
namespace Mine
open PySem PyProof.Rows
theorem Cl {h : Heap} {dx : Addr} {o : Obj} {m : Str → Option Value} (hn : h.Ns dx m) (e : h.get? dx = some o) (n : Str) : W.lookIn n o = some (m n) := by
 obtain ⟨o', es, ep, e', hd, sk, hf⟩ := hn
 rw [e] at e'; cases e'
 unfold W.lookIn
 rw [hd]
 have hf := hf n
 unfold nsFind findBy at hf
 rw [← Array.find?_toList] at hf
 dsimp only
 cases q : es.toList.find? (fun e => e.key.isStr n) with
 | some en => rw [q] at hf; exact congrArg some hf
 | none =>
  rw [q] at hf
  dsimp only
  rw [if_neg]
  ·exact congrArg some hf
  ·intro hr
   obtain ⟨en, hm, hk⟩ := List.any_eq_true.mp hr
   obtain ⟨n', t, hk'⟩ := sk en (Array.mem_toList_iff.mp hm)
   unfold DictEntry.refKey at hk
   rw [hk'] at hk
   cases hk
noncomputable def VX (n : Str) : List Str → List D → Option D
 | x :: xs, d :: ds => if x = n then some d else VX n xs ds
 | _, _ => none
noncomputable def Oh : D → Bool
 | .glob _ => false
 | _ => true
set_option tactic.hygienic true in
theorem Hn {S : Addr → Prop} {h : Heap} {m : Str → Option Value} {n : Str} {d : D} : ∀ {ns : List Str} {vs : List Value} {ds : List D}, ns.map m = vs.map some → RVs S h vs ds → VX n ns ds = some d → ∃ v, m n = some v ∧ RV S h v d := by
 intro ns
 induction ns with
 | nil => intro vs ds _ _ e; cases e
 | cons x xs ih =>
  intro vs ds hm rv e
  cases rv with
  | nil => cases e
  | cons q r =>
   simp only [List.map_cons, List.cons.injEq] at hm
   rw [VX] at e
   split at e
   ·rename_i hx; cases e; subst hx; exact ⟨_, hm.1, q⟩
   ·exact ih hm.2 r e
theorem RV.inst {S : Addr → Prop} {h : Heap} {v : Value} {C : Addr} {ns : List Str} {ds : List D} (q : RV S h v (.obj C ns ds)) : ∃ a dx od m vs, v = .ref a ∧ h.get? dx = some od ∧ h.Ns dx m ∧ (ns.map m = vs.map some ∧ ∀ y, y ∉ ns → m y = Option.none) ∧ RVs S h vs ds ∧ W.InstAt h a (W.instObj C dx) C (some od) := by
 cases q with
 | obj s1 s2 e n hm r =>
  obtain ⟨o, es, ep, ho, hd, rest⟩ := n
  exact ⟨_, _, o, _, _, rfl, ho, ⟨o, es, ep, ho, hd, rest⟩, hm, r, e, rfl, rfl, ho⟩
theorem RV.handed {S : Addr → Prop} {h : Heap} {v : Value} {d : D} (q : RV S h v d) (hg : Oh d = true) : W.handedIn v = true := by
 cases q <;> first | rfl | cases hg
theorem DA {K : W.Frag} {C : Addr} {o : Obj} {n : Str} {v : Value} (hc : (W.clsIn K C).any (·.hasDict) = true) (hf : W.findIn K (.ref C) n = some none) (hl : W.lookIn n o = some (some v)) : W.findObj K C (some o) n = some (.value v) := by
 obtain ⟨cd, hcd, hd⟩ := W.any_some hc
 unfold W.findObj W.ownOf
 rw [hcd, hf]
 simp [hd, hl]
section
variable {G : Gd} {k : Nat} {sc : Scope}
noncomputable def Oy (C : Addr) (n : Str) (i : Nat) : AEnv → Res T := fun ρ => match ρ[i]? with
 | some (some (.sh (.obj C' ns ds))) => if C' = C then (match VX n ns ds with
  | some d => if Oh d then .ok (.sh d) ρ else .stuck
  | none => .stuck) else .stuck
 | _ => .stuck
set_option tactic.hygienic true in
theorem Hg (hG : G.Ok) {C : Addr} {n x : Str} {p pos : Pos} {i : Nat} (hx : (Qm sc)[i]? = some x := by kernel_rfl) (hd : (x == ("__debug__" : Str)) = false := by kernel_rfl) (hn : (x == ("__classdict__" : Str)) = false := by kernel_rfl)
  (hga : W.findIn G.K (.ref C) "__getattribute__" = some (some (.builtin "object.__getattribute__")) := by kernel_rfl) (hc : (W.clsIn G.K C).any (·.hasDict) = true := by kernel_rfl) (hf : W.findIn G.K (.ref C) n = some none := by kernel_rfl) :
  Sim G k sc (.Attribute (.Name x p) n pos) (Oy C n i) := by
 intro cx ok ρ S s r Q E out
 unfold Oy at out
 split at out
 ·rename_i C' ns ds ht
  split at out
  ·rename_i hC
   subst hC
   split at out
   ·rename_i d hd'
    split at out
    ·rename_i hg
     obtain ⟨v, hv, tv⟩ := r.vars i x _ hx ht
     obtain ⟨a, dx, od, m, vs, rfl, e2, e3, e4, rv, I⟩ := RV.inst tv
     obtain ⟨u, hu, ru⟩ := Hn e4.1 rv hd'
     rw [arm_eval_Attribute]
     show wpAny _ _ (eval (.Name x p) cx.env >>= _) _ _ _
     refine wpAny_bind (wpAny_Name (Ze (ok.mono (Nat.zero_le _)) hv hn rfl ?_) hd)
     refine wpAny_bind (wpAny_standAt (wpAny_bind (wpAny_holding (W.get_value (hG.K.keeps r.base) I hga (DA hc hf (by rw [Cl e3 e2, hu])) (ru.handed hg) ?_))))
     exact wpAny_bind (wpAny_pure (wpAny_pure (out u s.heap _ S r ru (Ext.refl ..) fun _ => QR.refl _ _)))
    ·exact out.elim
   ·exact out.elim
  ·exact out.elim
 ·exact out.elim
noncomputable def J0 (C : Addr) (n : Str) (i : Nat) (F : List D → FOut) (fa : AEnv → Res (List Bv)) : AEnv → Res T := fun ρ => match ρ[i]? with
 | some (some (.sh (.obj C' ns _))) => if C' = C ∧ n ∉ ns then (fa ρ).bind fun bs ρ₁ => (match Zx ρ₁ (.var i :: bs) with
  | some ds => Jj (.var i :: bs) ρ₁ (F ds)
  | none => .stuck) else .stuck
 | _ => .stuck
set_option tactic.hygienic true in
theorem Iq (hG : G.Ok) {C f : Addr} {n x : Str} {p apos pos : Pos} {i k' : Nat} {fo : Obj} {fd : FuncData} {F : List D → FOut} {args : List Expr} {fa : AEnv → Res (List Bv)} (hF : Zy G k' (.ref f) F) (hk : k' ≤ k) (hfo : G.B.get? f = some fo) (hfd : fo.data = .func fd) (ha : Uz G k sc args fa) (hu : args.all XH = true)
  (hx : (Qm sc)[i]? = some x) (hd : (x == ("__debug__" : Str)) = false) (hn : (x == ("__classdict__" : Str)) = false)
  (hfew : ∀ env, ((backTo pos (starEach args env)).all (fun x => !x.1) && (backToKw pos (keywordEach [] env)).all (fun x => x.1.isSome) && decide (args.length + ([] : List Keyword).length + (if ([] : List Keyword).isEmpty then 0 else 1) < 30)) = true) (hline : (apos.endLine == pos.line) = true)
  (hga : W.findIn G.K (.ref C) "__getattribute__" = some (some (.builtin "object.__getattribute__"))) (hgt : W.findIn G.K (.ref C) "__getattr__" = some none) (hf : W.findIn G.K (.ref C) n = some (some (.ref f))) (hty : W.typeIn G.K (.ref f) = some (.type "function")) :
  Sim G k sc (.Call (.Attribute (.Name x p) n apos) args [] pos) (J0 C n i F fa) := by
 intro cx ok ρ S s r Q E out
 unfold J0 at out
 split at out
 ·rename_i C' ns ds ht
  split at out
  ·rename_i hC
   obtain ⟨rfl, hns⟩ := hC
   obtain ⟨v, hv, tv⟩ := r.vars i x _ hx ht
   obtain ⟨a, dx, od, m, vs, rfl, e2, e3, e4, rv, I⟩ := RV.inst tv
   rw [arm_eval_Call]
   show wpAny _ _ (eval (.Name x p) cx.env >>= _) _ _ _
   refine wpAny_bind (wpAny_Name (Ze (ok.mono (Nat.zero_le _)) hv hn rfl ?_) hd)
   refine wpAny_bind (wpAny_standAt ?_)
   have hform : methodCallForm (args.length + ([] : List Keyword).length) (backTo pos (starEach args cx.env)) (backToKw pos (keywordEach [] cx.env)) = true := hfew cx.env
   have hpos : methodCallPos true (.Name x p) cx.env apos pos = pure pos := by unfold methodCallPos; simp [hline]
   unfold methodCall
   rw [hform]
   refine wpAny_bind (wpAny_holding (W.method_fn (hG.K.keeps r.base) I hga hgt hf hty (by show Option.map _ (W.lookIn n od) = _; rw [Cl e3 e2, e4.2 n hns]; rfl) ?_))
   refine wpAny_bind (wpAny_of_eq hpos ?_)
   refine Calls.callWith_function (o := fo) (fd := fd) (Yi hu ?_)
   refine ha pos cx ok ρ S s r _ _ ?_
   refine out.step0 fun bs ρ' out ws h₂ t₂ S₂ r₂ j₂ x₂ v₂ => ?_
   refine ⟨⟨r₂.base _ _ hfo, hfd⟩, ?_⟩
   split at out
   ·rename_i es hes
    refine Bh (s := { s with heap := h₂, toks := t₂ }) hF ok hk r₂ (.cons (b := .var i) ⟨x, hx, v₂ rfl x _ hv⟩ j₂) hes Q E ?_
    exact out.lift (x₂) fun q => (v₂ q)
   ·exact out.elim
  ·exact out.elim
 ·exact out.elim
end
end Mine
end

section
set_option Elab.async false
set_option maxRecDepth 100000
namespace Mine
open PySem PyProof.Rows
inductive IOut where
 | ok (ds : List D)
 | exc (C : Addr)
 | stuck
noncomputable def IK : Option T → Bool
 | some (.ow _ _) => false
 | _ => true
noncomputable def Vl (ρ : AEnv) : Bool := ρ.all IK
theorem K9 {ρ : AEnv} (h : Vl ρ = true) {i : Nat} {m : Bool} {d : D} (e : ρ[i]? = some (some (.ow m d))) : False := by
 have := List.all_eq_true.mp h _ (List.mem_of_getElem? e)
 cases this
noncomputable def YE : List (Str × (AEnv → Res T)) → AEnv → Option (List D)
 | [], ρ => if Vl ρ then some [] else none
 | (_, f) :: fs, ρ => if Vl ρ then (match f ρ with
  | .ok t ρ₁ => (YE fs ρ₁).map (t.val :: ·)
  | _ => none) else none
theorem V3 {ts : List (Str × (AEnv → Res T))} {ρ : AEnv} {ds : List D} (h : YE ts ρ = some ds) : Vl ρ = true := by
 cases ts with
 | nil => rw [YE] at h; split at h; assumption; cases h
 | cons a ts => obtain ⟨n, f⟩ := a; rw [YE] at h; split at h; assumption; cases h
noncomputable def FT (i₀ : Nat) (pre : AEnv → Res Fl) (ts : List (Str × (AEnv → Res T))) (x : Addr) (ρ : AEnv) : IOut := match pre ρ with
 | .ok .next ρ₁ => (match ρ₁[i₀]? with
  | some (some (.sh (.glob (.ref y)))) => if y = x then (match YE ts ρ₁ with
   | some ds => .ok ds
   | none => .stuck) else .stuck
  | _ => .stuck)
 | .exc C _ => .exc C
 | _ => .stuck
section
variable {G : Gd} {cx : Cx} {sc : Scope} {ρ : AEnv} {S : Addr → Prop} {h h' : Heap} {k : Nat}
abbrev Cx.at (cx : Cx) (g : Heap) : Cx := { cx with h₀ := g }
theorem Rel.rebase {g g' : Heap} {dx : Addr} {o₁ o₂ : Obj} {es : Array DictEntry} {n : Nat} (r : Rel G (cx.at g) sc ρ S h) (hsh : Vl ρ = true) (e₁ : h.get? dx = some o₁) (hd : o₁.data = .dict es n) (hS : ¬ S dx) (hl : dx ≠ cx.env.locals) (hB : G.B.get? dx = none) (hff : ∀ env ∈ cx.fs, env.frame ≠ some dx)
  (k : Heap.SameBut dx h h') (e₂ : h'.get? dx = some o₂) (gk : ∀ b, b ≠ dx → g'.get? b = g.get? b) (gd : g'.get? dx = some o₂) (g0 : ∃ o, g.get? dx = some o) :
  Rel G (cx.at g') sc ρ S h' ∧ Ext S h S h' ∧ QR cx.env h h' := by
 have hi : ¬ Imm o₁ := Vj hd
 have x' : Ext S h S h' := RV.but e₁ hi hS (fun b o hb eb => (k.2 b hb).trans eb) ⟨_, e₂⟩
 have nsame : ∀ m, h.Ns cx.env.locals m → h'.Ns cx.env.locals m := fun m n => n.sameBut k (Ne.symm hl)
 have cne : ∀ y c, cx.env.cells.lookup y = some c → c ≠ dx := fun y c q => by
  rintro rfl
  obtain ⟨v, o, e'', hd'⟩ := r.cells y _ q
  rw [e₁] at e''; cases e''; rw [hd] at hd'; cases hd'
 have csame : ∀ y c, cx.env.cells.lookup y = some c → ∀ w, h.IsCell c w → h'.IsCell c w := fun y c q w n => n.sameBut k (cne y c q)
 have same : QR cx.env h h' := fun y w q => by
  rcases q with ⟨a, m₁, b, c⟩ | ⟨a, c, b, d⟩
  ·exact .inl ⟨a, m₁, nsame m₁ b, c⟩
  ·exact .inr ⟨a, c, b, csame y c b _ d⟩
 have hf : ∀ y w, Var cx.env h' y w → Var cx.env h y w := fun y w q => by
  rcases q with ⟨a, m₁, b, c⟩ | ⟨a, c, b, d⟩
  ·obtain ⟨m₀, n₀⟩ := r.ns
   exact .inl ⟨a, m₀, n₀, by rw [(nsame m₀ n₀).agree b y]; exact c⟩
  ·obtain ⟨w₀, n₀⟩ := r.cells y c b
   exact .inr ⟨a, c, b, by rw [IsCell.inj d (csame y c b _ n₀)]; exact n₀⟩
 refine ⟨⟨fun b o q => (k.2 b (by rintro rfl; rw [hB] at q; cases q)).trans (r.base b o q), fun b o q => ?_, fun env he => ?_, let ⟨m, n⟩ := r.ns; ⟨m, nsame m n⟩, fun y c q => let ⟨w, n⟩ := r.cells y c q; ⟨w, csame y c q w n⟩, fun b q => let ⟨o, eo⟩ := r.sdom b q; x'.dom b o eo, fun b q => ?_, r.sloc, r.scell, fun y b hdy q => let ⟨o, eo⟩ := r.live y b hdy (hf y _ q); x'.dom b o eo,
  fun i y m d _ hj => (K9 hsh hj).elim, fun v q => let ⟨C, e⟩ := r.hok v q; ⟨C, e.ext x'⟩, fun j y u hy hu => ?_, fun j l y z m m' d d' u hy hz hj hl a b => (K9 hsh hj).elim, fun i y m ks ds _ hj => (K9 hsh hj).elim⟩, x', same⟩
 ·by_cases hb : b = dx
  ·subst hb
   have q : g'.get? b = some o := q
   rw [gd] at q; cases q
   exact ⟨o₂.slots, e₂, fun _ => rfl⟩
  ·have q : g'.get? b = some o := q
   rw [gk b hb] at q
   obtain ⟨sl, q₁, k₁⟩ := r.keep b o q
   exact ⟨sl, (k.2 b hb).trans q₁, k₁⟩
 ·obtain ⟨p, L, o, b, c, d, es, n, q⟩ := r.ff env he
  exact ⟨p, L, o, b, c, (k.2 L (by rintro rfl; exact hff env he b)).trans d, es, n, q⟩
 ·rcases r.sok b q with q' | q'
  ·exact .inl q'
  ·refine .inr ?_
   have q' : g.get? b = none := q'
   show g'.get? b = none
   rw [gk b (by rintro rfl; obtain ⟨o, e⟩ := g0; rw [q'] at e; cases e)]
   exact q'
 ·obtain ⟨w, hw', tw⟩ := r.vars j y u hy hu
  cases u with
  | sh d => exact ⟨w, same y w hw', RV.ext x' tw⟩
  | ow m d => exact (K9 hsh hu).elim
inductive STail (G : Gd) (k : Nat) (sc : Scope) (C : Addr) (i₀ : Nat) (sf : Str) : List Stmt → List (Str × (AEnv → Res T)) → Prop
 | nil : STail G k sc C i₀ sf [] []
 | cons {value : Expr} {p ap pos : Pos} {n : Str} {f : AEnv → Res T} {sts : List Stmt} {ts : List (Str × (AEnv → Res T))} : Sim G k sc value f → (∀ env : Env, env.scope = sc → swapsWithSole [.Attribute (.Name sf p) n ap] value pos.line env = pure false) → (∀ env : Env, swappedStores [.Attribute (.Name sf p) n ap] value env = pure none) →
   W.takerIn G.K C n = some none → STail G k sc C i₀ sf sts ts → STail G k sc C i₀ sf (.Assign [.Attribute (.Name sf p) n ap] value pos :: sts) ((n, f) :: ts)
structure TI (G : Gd) (cx : Cx) (sc : Scope) (C x dx : Addr) (sf : Str) (g : Heap) (ρ : AEnv) (S : Addr → Prop) (h : Heap) (ns : List Str) (vs : List Value) (ds : List D) (m : Str → Option Value) : Prop where
 r : Rel G (cx.at g) sc ρ S h
 gk : ∀ b, b ≠ dx → g.get? b = cx.h₀.get? b
 gd : ∃ o, g.get? dx = some o
 xi : cx.h₀.get? x = some (W.instObj C dx)
 xd : x ≠ dx
 pd : ¬ cx.P dx
 bd : G.B.get? dx = none
 ld : dx ≠ cx.env.locals
 fd : ∀ env ∈ cx.fs, env.frame ≠ some dx
 var : Var cx.env h sf (.ref x)
 nsd : h.Ns1 dx m
 hm : ns.map m = vs.map some
 hmn : ∀ y, y ∉ ns → m y = none
 rv : RVs S h vs ds
theorem Kp.ns1 {h h' : Heap} (x : Kp h h') {a : Addr} {m : Str → Option Value} (hn : h.Ns1 a m) : h'.Ns1 a m := by
 obtain ⟨o, es, ep, ho, hd, r⟩ := hn
 obtain ⟨sl, e₁, _⟩ := x a o ho
 exact ⟨_, es, ep, e₁, hd, r⟩
set_option tactic.hygienic true in
theorem Ir (hG : G.Ok) {C x dx : Addr} {i₀ : Nat} {sf : Str} (hdb : (sf == ("__debug__" : Str)) = false) (hn : (sf == ("__classdict__" : Str)) = false) (hp : W.plainOver G.K C = true) (hh : (W.clsIn G.K C).any (·.hasDict) = true)
  (hs : W.findIn G.K (.ref C) "__setattr__" = some (some (.builtin "object.__setattr__"))) (ok : CxOk G cx sc k) {E : Value → Shared → Prop} {sts : List Stmt} {ts : List (Str × (AEnv → Res T))} (st : STail G k sc C i₀ sf sts ts) :
  ∀ {g : Heap} {ρ : AEnv} {S : Addr → Prop} {s : Shared} {ns : List Str} {vs : List Value} {ds ds' : List D} {m : Str → Option Value} {Q : Flow → Shared → Prop}, TI G cx sc C x dx sf g ρ S s.heap ns vs ds m → (ns ++ ts.map (·.1)).Nodup → (ns ++ ts.map (·.1)).length ≤ 100 → YE ts ρ = some ds' →
  (∀ h' tk g' ρ' S' vs' m', TI G cx sc C x dx sf g' ρ' S' h' (ns ++ ts.map (·.1)) vs' (ds ++ ds') m' → (∀ b, S b → S' b) → Q .next { s with heap := h', toks := tk }) → wpAny G.M cx.A (execs sts cx.env) Q E s := by
 induction st with
 | nil =>
  intro g ρ S s ns vs ds ds' m Q ti nd hl ht hQ
  rw [YE] at ht
  split at ht
  ·cases ht
   rw [execs_nil]
   rw [List.map_nil, List.append_nil, List.append_nil] at hQ
   exact wpAny_pure (hQ s.heap s.toks g ρ S vs m ti fun _ q => q)
  ·cases ht
 | cons hf hsw hw htk _ ih =>
  rename_i value p ap pos n f sts ts _
  intro g ρ S s ns vs ds ds' m Q ti nd hl ht hQ
  have hsh := V3 ht
  rw [YE, if_pos hsh] at ht
  rw [execs_cons]
  refine wpAny_bind ?_
  rw [exec_Assign]
  refine wpAny_bind (wpAny_standAt ?_)
  rw [hsw cx.env ok.hsc]
  refine wpAny_bind (wpAny_pure ?_)
  rw [if_neg (by decide)]
  have ok' : CxOk G (cx.at g) sc k := ⟨ok.hsc, ok.hk, ok.hg, ok.hb, ok.fr, ok.top, ok.hd, ok.room, ok.nodup⟩
  refine wpAny_bind ((hf (cx.at g) ok' ρ S s ti.r).shared _ _ ?_)
  cases hfv : f ρ with
  | stuck => rw [hfv] at ht; cases ht
  | exc C ρ₁ => rw [hfv] at ht; cases ht
  | ok t ρ₁ =>
   rw [hfv] at ht
   obtain ⟨ds₁, ht₁, rfl⟩ := Option.map_eq_some_iff.mp ht
   intro v h₁ t₁ S₁ r₁ j₁ x₁ v₁
   rw [hw]
   refine wpAny_bind (wpAny_pure ?_)
   show wpAny _ _ (do assignAll v [assign (.Attribute (.Name sf p) n ap) cx.env]; pure Flow.next) _ _ _
   refine wpAny_bind ?_
   show wpAny _ _ (assign (.Attribute (.Name sf p) n ap) cx.env v) _ _ _
   rw [arm_assign_Attribute]
   have hv₁ : Var cx.env h₁ sf (.ref x) := v₁ rfl sf _ ti.var
   refine wpAny_bind (wpAny_holding (wpAny_Name (Ze (cx := cx) (ok.mono (Nat.zero_le _)) hv₁ hn rfl ?_) hdb))
   refine wpAny_bind (wpAny_standAt (wpAny_bind (wpAny_holding ?_)))
   have hx₁ : h₁.get? x = some (W.instObj C dx) := r₁.keep.exact ((ti.gk x ti.xd).trans ti.xi) (fun es m q => by cases q)
   have nd₁ : h₁.Ns1 dx m := by
    obtain ⟨o, es, ep, e, hd, rest⟩ := ti.nsd
    obtain ⟨o₀, e₀⟩ := ti.gd
    obtain ⟨sl, e₁, _⟩ := ti.r.keep dx o₀ e₀
    have e₁ : s.heap.get? dx = some { o₀ with slots := sl } := e₁
    rw [e] at e₁; cases e₁
    obtain ⟨sl', e₂, _⟩ := r₁.keep dx o₀ e₀
    exact ⟨_, es, ep, e₂, hd, rest⟩
   obtain ⟨od, es, ep, ed, hdd, _⟩ := id nd₁
   have I : W.InstAt h₁ x (W.instObj C dx) C (some od) := ⟨hx₁, rfl, rfl, ed⟩
   have X : G.K.In h₁ := hG.K.keeps r₁.base
   refine W.set_plain (s := { s with heap := h₁, toks := t₁ }) X I hs ?_
   refine W.osa_open (s := { s with heap := h₁, toks := t₁ + 1 }) X I hp htk fun b => ?_
   obtain ⟨cd, hc, hd'⟩ := W.any_some hh
   show wpAny _ _ (Builtin.ObjectAttr.storeInOwnDict (.ref x) (.ref C) (.str n t₁) n v b) _ _ _
   unfold Builtin.ObjectAttr.storeInOwnDict
   refine wpAny_bind (wpAny_pure (wpAny_bind (wpAny_bind (wpAny_loadPart hx₁ (wpAny_bind ((W.looks_clsIn X hc).here ?_))))))
   rw [hd']
   refine wpAny_pure (a := some dx) (wpAny_bind (wpAny_pure (wpAny_bind ?_)))
   refine wpAny_nsSet1 (s := { s with heap := h₁, toks := t₁ + 1 }) nd₁ fun h₂ n₂ k₂ => ?_
   have nn : n ∉ ns := fun q => by
    rw [List.map_cons] at nd
    exact (List.nodup_append.mp nd).2.2 n q n (.head _) rfl
   have hmn' : ∀ y, y ∉ ns ++ [n] → (if y = n then some v else m y) = none := fun y hy => by
    rw [List.mem_append, not_or] at hy
    rw [if_neg (by rintro rfl; exact hy.2 (.head _))]
    exact ti.hmn y hy.1
   obtain ⟨oD, esD, epD, hoD, hdD, hcD⟩ := n₂.count (ns := ns ++ [n]) fun y hy => by
    by_cases q : y ∈ ns ++ [n]
    ·exact q
    ·exact absurd (hmn' y q) hy
   refine wpAny_bind (wpAny_lookBehind hoD (by rw [hdD]; exact pastItsLine_dict (Nat.le_trans hcD (by
    rw [sizeLine_eq, List.length_append]
    rw [List.length_append, List.length_map, List.length_cons] at hl
    simp only [List.length_cons, List.length_nil]; lia))) ?_)
   refine wpAny_pure ?_
   show wpAny _ _ (release _ _) _ _ _
   refine wpAny_release ?_
   refine wpAny_pure ?_
   have hSd : ¬ S₁ dx := fun q => by
    rcases r₁.sok dx q with q | q
    ·exact ti.pd q
    ·obtain ⟨o, e⟩ := ti.gd
     have q : g.get? dx = none := q
     rw [q] at e; cases e
   obtain ⟨o₀, e₀⟩ := ti.gd
   have ge : (g.update dx fun _ => oD).get? dx = some oD := Heap.get?_update_self _ e₀ (Obj.isFreed_of_dict hdD)
   obtain ⟨r₂, x₂, v₂⟩ := r₁.rebase (g' := g.update dx fun _ => oD) (V3 ht₁) ed hdd hSd ti.ld ti.bd ti.fd k₂ hoD (fun b hb => Heap.get?_update_other _ _ (Ne.symm hb)) ge ti.gd
   have rv₂ : RVs S₁ h₂ (vs ++ [v]) (ds ++ [t.val]) := RVs.append (.cons (j₁.ext x₂) .nil) ((ti.rv.ext x₁).ext x₂)
   have := ih (s := { s with heap := h₂, toks := t₁ + 1 + 1 }) (g := g.update dx fun _ => oD) (ns := ns ++ [n]) (vs := vs ++ [v]) (ds := ds ++ [t.val]) (m := fun y => if y = n then some v else m y) (Q := Q)
    ⟨r₂, fun b hb => (Heap.get?_update_other _ _ (Ne.symm hb)).trans (ti.gk b hb), ⟨oD, ge⟩, ti.xi, ti.xd, ti.pd, ti.bd, ti.ld, ti.fd, v₂ sf _ hv₁, n₂, by
     rw [List.map_append, List.map_append, List.map_cons, List.map_nil, if_pos rfl, ← ti.hm]
     congr 1
     exact List.map_congr_left fun y hy => if_neg (by rintro rfl; exact nn hy), hmn', rv₂⟩ (by rw [List.append_assoc]; exact nd) (by rw [List.append_assoc]; exact hl) ht₁
   refine this fun h' tk g' ρ' S' vs' m' ti' sub => ?_
   rw [List.append_assoc, List.append_assoc] at ti'
   exact hQ h' tk g' ρ' S' vs' m' ti' fun b q => sub b (x₁.sub b q)
end
end Mine
end

section
set_option Elab.async false
set_option maxRecDepth 100000
namespace Mine
open PySem PyProof.Rows
inductive SPre (G : Gd) (k : Nat) (sc : Scope) (sts : List Stmt) : List Stmt → (AEnv → Res Fl) → Prop
 | nil : SPre G k sc sts sts Qy
 | cons {st : Stmt} {rest : List Stmt} {f g : AEnv → Res Fl} : Jk G k sc st f → SPre G k sc sts rest g → SPre G k sc sts (st :: rest) (Qo f g)
noncomputable def LE (G : Gd) (cx : Cx) (sc : Scope) (sts : List Stmt) (S : Addr → Prop) (s : Shared) (Q : Flow → Shared → Prop) (E : Value → Shared → Prop) : Res Fl → Prop
 | .ok .next ρ => ∀ h' tk S', Rel G cx sc ρ S' h' → Ext S s.heap S' h' → wpAny G.M cx.A (execs sts cx.env) Q E { s with heap := h', toks := tk }
 | .exc C ρ => ∀ e h' tk S', Rel G cx sc ρ S' h' → Fly s.heap h' e C → Ext S s.heap S' h' → E (.ref e) { s with heap := h', toks := tk }
 | _ => False
set_option tactic.hygienic true in
theorem SPre.wp {G : Gd} {k : Nat} {sc : Scope} {sts body : List Stmt} {f : AEnv → Res Fl} {cx : Cx} (p : SPre G k sc sts body f) (ok : CxOk G cx sc k) (fn : FnOk G cx) : ∀ {ρ : AEnv} {S : Addr → Prop} {s : Shared} {Q : Flow → Shared → Prop} {E : Value → Shared → Prop}, Rel G cx sc ρ S s.heap → LE G cx sc sts S s Q E (f ρ) → wpAny G.M cx.A (execs body cx.env) Q E s := by
 induction p with
 | nil => intro ρ S s Q E r out; exact out s.heap s.toks S r (Ext.refl ..)
 | cons h1 _ ih =>
  rename_i st rest f g _
  intro ρ S s Q E r out
  rw [execs_cons]
  refine wpAny_bind (h1 cx ok fn ρ S s r _ _ ?_)
  unfold Qo at out
  cases hf : f ρ with
  | stuck => rw [hf] at out; exact out.elim
  | exc C ρ₁ => rw [hf] at out; exact out
  | ok fl ρ₁ =>
   rw [hf] at out
   simp only [Res.bind] at out
   intro a h₁ t₁ S₁ r₁ j₁ x₁ _
   cases a <;> cases fl <;> first | exact j₁.elim | exact out.elim | skip
   refine ih (s := { s with heap := h₁, toks := t₁ }) r₁ ?_
   have out : LE G cx sc sts S s Q E (g ρ₁) := out
   cases hg : g ρ₁ with
   | stuck => rw [hg] at out; exact out
   | exc C ρ₂ => rw [hg] at out; intro e h₂ t₂ S₂ r₂ f₂ x₂; exact out e h₂ t₂ S₂ r₂ (f₂.back x₁) (x₁.trans x₂)
   | ok fl ρ₂ =>
    rw [hg] at out
    cases fl <;> first | exact out | skip
    intro h₂ t₂ S₂ r₂ x₂
    exact out h₂ t₂ S₂ r₂ (x₁.trans x₂)
noncomputable def LU (G : Gd) (ns : List Str) (dx : Addr) (S : Addr → Prop) (s : Shared) (R : Result → Shared → Prop) : IOut → Prop
 | .ok ds => ∀ h' tk S' m vs, (∀ b o, b ≠ dx → s.heap.get? b = some o → Kept h' b o) → G.B.StaysIn h' → (∀ b, S b → S' b) → (∀ b, S' b → S b ∨ s.heap.get? b = none) → EU S' h' → h'.Ns dx m → (ns.map m = vs.map some ∧ ∀ y, y ∉ ns → m y = none) → RVs S' h' vs ds → R (.ok (.ret .none)) { s with heap := h', toks := tk }
 | .exc C => ∀ e h' tk, Kp s.heap h' → G.B.StaysIn h' → FlyT s.heap h' e C → R (.error (.ref e)) { s with heap := h', toks := tk }
 | .stuck => False
noncomputable def OU (G : Gd) (k : Nat) (f : Value) (C : Addr) (ns : List Str) (I : Addr → List D → IOut) : Prop :=
 ∀ (A : Around) (fs : List Env) (S : Addr → Prop) (s : Shared) (vs : List Value) (ds : List D) (x dx : Addr), Dv A k → A.frames = some fs → (G.quiet = true → A.handled = none) → (∀ v, A.handled = some v → ∃ C, RV S s.heap v (.exc C)) → FF G.B s.heap fs → G.B.StaysIn s.heap → EU S s.heap → RVs S s.heap vs ds →
  s.heap.get? x = some (W.instObj C dx) → s.heap.Ns1 dx (fun _ => none) → x ≠ dx → ¬ S dx → G.B.get? dx = none → (∀ env ∈ fs, env.frame ≠ some dx) → ∀ R, LU G ns dx S s R (I x ds) → codeAny G.M A (.call f ⟨.ref x :: vs, []⟩) R s
noncomputable def DN (n : Nat) (is : List Nat) (i₀ : Nat) (f : AEnv → Res Fl) (ts : List (Str × (AEnv → Res T))) (x : Addr) (ds : List D) : IOut := if ds.length + 1 = is.length then FT i₀ f ts x (Bq n is (.glob (.ref x) :: ds)) else .stuck
set_option tactic.hygienic true in
theorem H8 {G : Gd} (g : Gr G) {k : Nat} (a : Addr) (n : Nat) (is : List Nat) (i₀ : Nat) (C : Addr) (sf : Str) {f : AEnv → Res Fl} {sts : List Stmt} {ts : List (Str × (AEnv → Res T))} (h : SPre G k (Zc G.K a).scope sts (UG (Zc G.K a)) f) (ht : STail G k (Zc G.K a).scope C i₀ sf sts ts)
  (hbind : ∀ vs : List Value, vs.length = (Zg (Zc G.K a)).length → bindArgs (Zc G.K a) ⟨vs, []⟩ = pure ((Zg (Zc G.K a)).zip vs)) (hn : (Qm (Zc G.K a).scope).length = n) (hi : Ui (Qm (Zc G.K a).scope) (Zg (Zc G.K a)) = is) (hsf : (Qm (Zc G.K a).scope)[i₀]? = some sf)
  (hdb : (sf == ("__debug__" : Str)) = false) (hcd : (sf == ("__classdict__" : Str)) = false) (hp : W.plainOver G.K C = true) (hh : (W.clsIn G.K C).any (·.hasDict) = true)
  (hs : W.findIn G.K (.ref C) "__setattr__" = some (some (.builtin "object.__setattr__"))) (hnd : WI (ts.map (·.1)) = true) (hnl : ts.length ≤ 100)
  (hf : Kv G.K a = true) (hc : W.codeIn G.K (Zc G.K a).code (Zc G.K a).qualname = true) (hpl : K6 (Zc G.K a) = true) :
  OU G (k + 1) (.ref a) C (ts.map (·.1)) (DN n is i₀ f ts) := by
 obtain ⟨fo, h1, h2⟩ := FI g hf
 unfold K6 at hpl
 simp only [Bool.and_eq_true, beq_iff_eq, Bool.not_eq_true'] at hpl
 obtain ⟨⟨⟨⟨⟨⟨⟨⟨⟨p1, p2⟩, p3⟩, p4⟩, p5⟩, p6⟩, p7⟩, p8⟩, p9⟩, p10⟩ := hpl
 have p7' : ∀ x ∈ Zg (Zc G.K a), (Qm (Zc G.K a).scope).contains x = true ∧ ((Zc G.K a).scope.names.lookup x = some .local ∨ (Zc G.K a).scope.names.lookup x = some .cell) := fun x hx => by
  have := List.all_eq_true.mp p7 x hx
  simpa using this
 have hb : (Zc G.K a).body = .stmts (UG (Zc G.K a)) := by
  unfold UG
  split at p1
  ·rename_i b e; rw [e]
  ·cases p1
 intro A fs S s vs ds x dx room fr hd hok ff hB sd rv hx hdx hxd hSd hBd hfd R fin
 unfold DN at fin
 split at fin
 rotate_left
 ·exact fin.elim
 rename_i hlen
 have hil : is.length = (Zg (Zc G.K a)).length := by rw [← hi]; unfold Ui; simp
 have rv' : RVs S s.heap (.ref x :: vs) (.glob (.ref x) :: ds) := .cons (.glob _ fun b e => by cases e; exact ⟨_, hx⟩) rv
 refine IU g.ok (body := UG (Zc G.K a)) (ps := Zg (Zc G.K a)) h1 h2 (W.codeRec_of g.ok.K hc) hb (by simpa using p2) p3 p4 hbind (fun x hx => (p7' x hx).2) (Yr p6) (Yr p5) p8 p9 p10 room fr hd hok ff hB sd rv' (by rw [List.length_cons, hlen, hil]) fun cx h₁ tk₁ ok fn e₀ eP eF eL r₀ hk₁ => ?_
 rw [Et (Yr p5) (List.all_eq_true.mpr fun x hx => (p7' x hx).1), hn, hi] at r₀
 refine h.wp ok fn (s := { s with heap := h₁, toks := tk₁ }) r₀ ?_
 unfold FT at fin
 cases hfr : f (Bq n is (.glob (.ref x) :: ds)) with
 | stuck => rw [hfr] at fin; exact fin.elim
 | exc C ρ' =>
  rw [hfr] at fin
  intro e h₂ t₂ S₂ r₂ f₂ x₂
  refine Bd (B := G.B) (h := h₁) (s := { s with heap := h₂, toks := t₂ }) ok.fr r₂.ff ok.top f₂ x₂.dom fun h₃ k₃ f₃ => ?_
  have r₃ := r₀.kpE r₂ k₃ f₂ f₃
  refine fin e h₃ t₂ (e₀ ▸ r₃.keep) r₃.base ?_
  obtain ⟨n, oe, ws, T, oT, ts, a1, a2, a0, a3, a4, a5, a6, a7, a8, a9, a10, a11⟩ := f₃
  have back : ∀ b, h₁.get? b = none → s.heap.get? b = none := fun b q => by
   cases q' : s.heap.get? b with
   | none => rfl
   | some o => rw [hk₁ b o q'] at q; cases q
  exact ⟨back e n, oe, ws, T, oT, ts, a1, a2, a0, a3, a4, a5, a6, back T a7, a8, a9, a10, a11⟩
 | ok fl ρ₁ =>
  rw [hfr] at fin
  cases fl <;> first | exact fin.elim | skip
  simp only at fin
  split at fin
  ·rename_i y hy
   split at fin
   ·rename_i hyx
    subst hyx
    cases htl : YE ts ρ₁ with
    | none => rw [htl] at fin; exact fin.elim
    | some ds' =>
     rw [htl] at fin
     intro h₂ t₂ S₂ r₂ x₂
     obtain ⟨v, hv, tv⟩ := r₂.vars i₀ sf _ hsf hy
     cases tv
     have hdx₀ : cx.h₀.Ns1 dx (fun _ => none) := by rw [e₀]; exact hdx
     have hdx₂ : h₂.Ns1 dx (fun _ => none) := r₂.keep.ns1 hdx₀
     have gd : ∃ o, cx.h₀.get? dx = some o := let ⟨o, _, _, e, _⟩ := hdx₀; ⟨o, e⟩
     refine Ir g.ok (x := y) (dx := dx) hdb hcd hp hh hs ok ht (g := cx.h₀) (s := { s with heap := h₂, toks := t₂ }) (ns := []) (vs := []) (ds := []) (m := fun _ => none)
      ⟨r₂, fun _ _ => rfl, gd, by rw [e₀]; exact hx, hxd, by rw [eP]; exact hSd, hBd, ?_, ?_, hv, hdx₂, rfl, fun _ _ => rfl, .nil⟩ (Yr hnd) (by rw [List.nil_append, List.length_map]; exact hnl) htl fun h' tk g' ρ' S' vs' m' ti sub => ?_
     ·rintro rfl
      obtain ⟨o, e⟩ := gd
      rw [fn.lnew] at e; cases e
     ·intro env he
      obtain ⟨env₀, outer, e1, e2⟩ := ok.top
      rw [e1] at he eF
      rcases List.mem_cons.mp he with rfl | he
      ·intro q
       rw [← e2, eL] at q; cases q
       obtain ⟨o, e⟩ := gd
       rw [fn.lnew] at e; cases e
      ·exact hfd env (by rw [← eF]; exact he)
     ·refine fin h' tk S' m' vs' (fun b o hb e => ?_) ti.r.base (fun b q => sub b (x₂.sub b q)) (fun b q => ?_) ti.r.sdom ti.nsd.ns ⟨by have := ti.hm; rwa [List.nil_append] at this, by have := ti.hmn; rwa [List.nil_append] at this⟩ (by have := ti.rv; rwa [List.nil_append] at this)
      ·exact ti.r.keep b o ((ti.gk b hb).trans (by rw [e₀]; exact e))
      ·rcases ti.r.sok b q with q' | q'
       ·exact .inl (eP ▸ q')
       ·refine .inr ?_
        have q' : g'.get? b = none := q'
        rw [← e₀, ← ti.gk b (by rintro rfl; obtain ⟨o, e⟩ := ti.gd; rw [q'] at e; cases e)]
        exact q'
   ·exact fin.elim
  ·exact fin.elim
end Mine
end

section
set_option Elab.async false
set_option maxRecDepth 100000
namespace Mine
open PySem PyProof.Rows
noncomputable def Vs (I : Addr → List D → IOut) (ds : List D) : IOut := by
 classical exact if h : ∃ o, ∀ x, I x ds = o then Classical.choose h else .stuck
theorem Im {I : Addr → List D → IOut} {ds : List D} {o : IOut} (h : ∀ x, I x ds = o) : Vs I ds = o := by
 unfold Vs
 have hh : ∃ o, ∀ x, I x ds = o := ⟨o, h⟩
 rw [dif_pos hh, ← Classical.choose_spec hh 0, h 0]
set_option tactic.hygienic true in
theorem FJ {I : Addr → List D → IOut} {ds : List D} (x : Addr) (h : Vs I ds ≠ .stuck) : I x ds = Vs I ds := by
 unfold Vs at h ⊢
 split at h
 ·rename_i hh; rw [dif_pos hh]; exact Classical.choose_spec hh x
 ·exact absurd rfl h
noncomputable def Ef (C : Addr) (ns : List Str) (I : Addr → List D → IOut) (fa : AEnv → Res (List Bv)) : AEnv → Res T := fun ρ => (fa ρ).bind fun bs ρ₁ => match Zx ρ₁ bs with
 | some ds => if bs.all (ZK ρ₁) then (match Vs I ds with
  | .ok es => .ok (.sh (.obj C ns es)) ρ₁
  | .exc C' => .exc C' ρ₁
  | .stuck => .stuck) else .stuck
 | none => .stuck
section
variable {G : Gd} {k : Nat} {sc : Scope}
theorem Fd {A : Around} {C : Addr} {vs : List Value} {k' : Nat} (r : Dv A (k' + 1)) : Dv (A.under (.builtin "type.__call__" ⟨.ref C :: vs, []⟩)) k' ∧ (A.under (.builtin "type.__call__" ⟨.ref C :: vs, []⟩)).frames = A.frames ∧ (A.under (.builtin "type.__call__" ⟨.ref C :: vs, []⟩)).handled = A.handled := by
 have w : (Code.builtin "type.__call__" ⟨.ref C :: vs, []⟩).weight = 1 := by
  unfold Code.weight Code.isGuard Code.isCaller Code.isCreation
  rfl
 have u : (Code.builtin "type.__call__" ⟨.ref C :: vs, []⟩).cUnits = 1 := rfl
 refine ⟨⟨?_, ?_⟩, ?_, rfl⟩
 ·show A.depth + (Code.builtin "type.__call__" ⟨.ref C :: vs, []⟩).weight + k' ≤ 900
  rw [w]; have := r.1; exact omS this
 ·show A.units + (Code.builtin "type.__call__" ⟨.ref C :: vs, []⟩).cUnits + 8 * k' ≤ 9000
  rw [u]; have := r.2; lia
 ·unfold Around.under
  cases A.frames <;> rfl
theorem Gv {cx : Cx} {ρ : AEnv} {S : Addr → Prop} {s : Shared} {C f : Addr} {ns : List Str} {I : Addr → List D → IOut} {vs : List Value} {bs : List Bv} {ds : List D} {k' : Nat} (hG : G.Ok) (hI : OU G k' (.ref f) C ns I) (ok : CxOk G cx sc k) (hk : k' + 1 ≤ k) (hm : W.makesIn G.K C = true) (hi : W.findIn G.K (.ref C) "__init__" = some (some (.ref f))) (hf : W.typeIn G.K (.ref f) = some (.type "function"))
  (r : Rel G cx sc ρ S s.heap) (q : BVals cx sc S s.heap vs bs) (hs : bs.all (ZK ρ) = true) (e : Zx ρ bs = some ds) :
  QD G cx sc true (call (.ref C) vs []) S s (fun S' h' v t => Ul cx S' h' v t) (match Vs I ds with
   | .ok es => .ok (.sh (.obj C ns es)) ρ
   | .exc C' => .exc C' ρ
   | .stuck => .stuck) := by
 intro Q E out
 refine wpAny_call ?_
 have X : G.K.In s.heap := hG.K.keeps r.base
 obtain ⟨hh, gg, dd, tt, os⟩ := s
 refine W.make_core (W.makes_of X hm) (W.looks_findIn X hi) (fun sf => W.bind_fn X sf hf) (.inl rfl) ?_
 have kp : ∀ b o, hh.get? b = some o → ((hh.push W.emptyDict).push (W.instObj C hh.objs.size)).get? b = some o := fun b o e => Heap.get?_push_of_some _ (Heap.get?_push_of_some _ e)
 have hdx : ((hh.push W.emptyDict).push (W.instObj C hh.objs.size)).get? hh.objs.size = some W.emptyDict := Heap.get?_push_of_some _ (Heap.get?_push_size _ rfl)
 have hx : ((hh.push W.emptyDict).push (W.instObj C hh.objs.size)).get? (hh.objs.size + 1) = some (W.instObj C hh.objs.size) := by
  have := Heap.get?_push_size (hh.push W.emptyDict) (o := W.instObj C hh.objs.size) rfl
  rwa [Heap.size_push] at this
 have hn0 : hh.get? hh.objs.size = none := Heap.get?_none_of_le (Nat.le_refl _)
 have hn1 : hh.get? (hh.objs.size + 1) = none := Heap.get?_none_of_le (Nat.le_succ _)
 have r₁ : Rel G cx sc ρ S ((hh.push W.emptyDict).push (W.instObj C hh.objs.size)) := r.keeps kp
 have rv : RVs S ((hh.push W.emptyDict).push (W.instObj C hh.objs.size)) vs ds := (q.rvs r hs e).ext (Ext.of_keeps kp)
 obtain ⟨u1, u2, u3⟩ := Fd (C := C) (vs := vs) (k' := k') (ok.room.mono hk)
 refine hI _ cx.fs S ⟨(hh.push W.emptyDict).push (W.instObj C hh.objs.size), gg, dd, tt, os⟩ vs ds (hh.objs.size + 1) hh.objs.size u1 (u2.trans ok.fr) (fun z => u3.trans (ok.hd z)) (fun v z => r₁.hok v (u3 ▸ z)) r₁.ff r₁.base r₁.sdom rv hx ?_ (Nat.succ_ne_self _) ?_ ?_ ?_ _ ?_
 ·exact Heap.Ns1.of_empty ⟨_, _, _, hdx, rfl, fun e he => absurd he (by simp), fun _ => rfl⟩
 ·intro z; obtain ⟨o, e⟩ := r.sdom _ z; rw [hn0] at e; cases e
 ·cases z : G.B.get? hh.objs.size with
  | none => rfl
  | some o => have := r.base _ o z; rw [hn0] at this; cases this
 ·intro env he z
  obtain ⟨_, L, o, b, _, d, _⟩ := r.ff env he
  rw [z] at b; cases b
  rw [hn0] at d; cases d
 ·cases ha : Vs I ds with
  | stuck => rw [ha] at out; exact out.elim
  | exc C' =>
   rw [ha] at out
   rw [FJ (I := I) (ds := ds) (hh.objs.size + 1) (by rw [ha]; intro z; cases z), ha]
   intro e h' tk k1 hb fl
   refine out e h' tk S (r₁.kp k1 hb) ?_ ((Ext.of_keeps kp).trans (Ext.of_kp k1))
   exact fl.fly.back (Ext.of_keeps (S := S) kp)
  | ok es =>
   rw [ha] at out
   rw [FJ (I := I) (ds := ds) (hh.objs.size + 1) (by rw [ha]; intro z; cases z), ha]
   intro h' tk S' m vs' keep hb sub new sd nsd hmm rvs
   refine ⟨rfl, ?_⟩
   have kp' : Kp hh h' := fun b o e => keep b o (by rintro rfl; rw [hn0] at e; cases e) (kp b o e)
   have hx' : h'.get? (hh.objs.size + 1) = some (W.instObj C hh.objs.size) := by
    obtain ⟨sl, e₁, hs⟩ := keep _ _ (Nat.succ_ne_self _) hx
    rw [hs fun es m z => by cases z] at e₁; exact e₁
   have hdx' : ∃ o, h'.get? hh.objs.size = some o := let ⟨o, _, _, e, _⟩ := nsd; ⟨o, e⟩
   obtain ⟨r', x'⟩ := r.kpS (S' := fun b => S' b ∨ b = hh.objs.size ∨ b = hh.objs.size + 1) kp' hb (fun b z => .inl (sub b z)) (fun b z => by
    rcases z with z | rfl | rfl
    ·rcases new b z with z | z
     ·exact .inl z
     ·refine .inr ?_
      cases z' : hh.get? b with
      | none => rfl
      | some o => have := kp b o z'; rw [z] at this; cases this
    ·exact .inr hn0
    ·exact .inr hn1) (fun b z => by
    rcases z with z | rfl | rfl
    ·exact sd b z
    ·exact hdx'
    ·exact ⟨_, hx'⟩)
   exact out (.ref (hh.objs.size + 1)) h' tk _ r' (.obj (.inr (.inr rfl)) (.inr (.inl rfl)) hx' nsd hmm (rvs.ext (Ext.grow fun _ z => .inl z))) x' fun _ => r.same kp'
set_option tactic.hygienic true in
theorem Ic (hG : G.Ok) {g : Str} {p pos : Pos} {C f : Addr} {ns : List Str} {I : Addr → List D → IOut} {args : List Expr} {fa : AEnv → Res (List Bv)} {k' : Nat} (hn : Sim G k sc (.Name g p) (Qd (.glob (.ref C)))) (hI : OU G k' (.ref f) C ns I) (hk : k' + 1 ≤ k) (ha : Uz G k sc args fa) (hu : args.all XH = true)
  (hpl : ∀ env, ((backTo pos (starEach args env)).any (·.1) || ([] : List (Option Str × Sem Value)).any (·.1.isNone)) = false) (hkp : W.keepIn G.K (.ref C) = true) (hm : W.makesIn G.K C = true) (hi : W.findIn G.K (.ref C) "__init__" = some (some (.ref f))) (hf : W.typeIn G.K (.ref f) = some (.type "function")) :
  Sim G k sc (.Call (.Name g p) args [] pos) (Ef C ns I fa) := by
 intro cx ok ρ S s r Q E out
 show wpAny G.M cx.A (do callWith pos (← eval (.Name g p) cx.env) [] (backTo pos (starEach args cx.env)) []) Q E s
 refine wpAny_bind (hn cx ok ρ S s r _ _ ?_)
 intro v h₁ t₁ S₁ r₁ j₁ x₁ v₁
 have hv : v = .ref C := by cases j₁; rfl
 subst hv
 refine W.callWith_of (P := G.K.In) (hpl cx.env) (W.keeps_K hkp) (Yi hu ?_)
 refine ha pos cx ok ρ S₁ { s with heap := h₁, toks := t₁ } r₁ _ _ ?_
 refine out.step (x₁) fun bs ρ' out vs h₂ t₂ S₂ r₂ j₂ x₂ v₂ => ?_
 refine ⟨hG.K.keeps r₂.base, ?_⟩
 split at out
 ·rename_i ds hds
  split at out
  ·rename_i hs
   refine Gv (s := { s with heap := h₂, toks := t₂ }) hG hI ok hk hm hi hf r₂ j₂ hs hds Q E ?_
   cases hc : Vs I ds with
   | stuck => rw [hc] at out; exact out
   | exc C' => rw [hc] at out; intro e h₃ t₃ S₃ r₃ f₃ x₃; exact out e h₃ t₃ S₃ r₃ (f₃.back (x₁.trans x₂)) ((x₁.trans x₂).trans x₃)
   | ok es => rw [hc] at out; intro w h₃ t₃ S₃ r₃ j₃ x₃ v₃; exact out w h₃ t₃ S₃ r₃ j₃ ((x₁.trans x₂).trans x₃) fun q => ((v₁ q).trans (v₂ q)).trans (v₃ q)
  ·exact out.elim
 ·exact out.elim
end
end Mine
end

section
set_option Elab.async false
set_option maxRecDepth 100000
namespace Mine
open PySem PyProof.Rows
noncomputable def Ma : D → Option T
 | .bool b => some (.sh (.int (if b then 1 else 0)))
 | _ => none
noncomputable def GC : List D → Option T := one Ma
theorem I9 {G : Gd} : OpN G (fun vs => call (.type "int") vs []) GC := by
 intro cx sc ok ρ S s vs ds t rel q e Q E out
 obtain ⟨d, rfl, e⟩ := W5 e
 cases d with
 | bool b =>
  cases e
  cases q with
  | cons qx q =>
   cases q
   rw [qx.bool]
   exact call_int_bool (ZS out rel (.int _ _))
 | _ => exact nn e
noncomputable def JE (p : PyData) (i : Nat) : List PyData → Option Nat
 | [] => none
 | q :: r => match i with
  | 0 => if PyData.eqv q p then some 0 else (JE p 0 r).map (· + 1)
  | i + 1 => (JE p i r).map (· + 1)
noncomputable def Ck : List D → Option T
 | [.list ds, x, .int i] => (match YM ds, Wy x with
  | some ps, some p => if SeqAt.shaped (.list ps) && SeqAt.shaped p && decide (0 ≤ i ∧ i ≤ 1000000 ∧ ps.length ≤ 1000000) then (JE p i.toNat ps).map fun (j : Nat) => T.sh (.int (j : Int)) else none
  | _, _ => none)
 | _ => none
theorem Dy {p : PyData} {ps : List PyData} : ∀ {i j : Nat}, JE p i ps = some j → i ≤ j ∧ (∃ q, ps[j]? = some q ∧ PyData.eqv q p = true) ∧ ∀ m q, i ≤ m → m < j → ps[m]? = some q → PyData.eqv q p = false := by
 induction ps with
 | nil => intro i j h; cases i <;> cases h
 | cons q r ih =>
  intro i j h
  cases i with
  | zero =>
   have h : (if PyData.eqv q p = true then some 0 else (JE p 0 r).map (· + 1)) = some j := h
   by_cases hq : PyData.eqv q p = true
   ·rw [if_pos hq] at h; cases h
    exact ⟨Nat.le_refl _, ⟨q, rfl, hq⟩, fun m q _ hm => absurd hm (Nat.not_lt_zero _)⟩
   ·rw [if_neg hq] at h
    obtain ⟨k, hk, rfl⟩ := Option.map_eq_some_iff.mp h
    obtain ⟨_, ⟨q', h2, h3⟩, h4⟩ := ih hk
    refine ⟨Nat.zero_le _, ⟨q', h2, h3⟩, fun m q₁ _ hm e => ?_⟩
    cases m with
    | zero => cases e; exact Bool.eq_false_iff.mpr hq
    | succ m => exact h4 m q₁ (Nat.zero_le _) (Nat.lt_of_succ_lt_succ hm) e
  | succ i =>
   obtain ⟨k, hk, rfl⟩ := Option.map_eq_some_iff.mp (show (JE p i r).map (· + 1) = some j from h)
   obtain ⟨h1, ⟨q', h2, h3⟩, h4⟩ := ih hk
   refine ⟨Nat.succ_le_succ h1, ⟨q', h2, h3⟩, fun m q₁ hi hm e => ?_⟩
   cases m with
   | zero => exact absurd hi (Nat.not_succ_le_zero _)
   | succ m => exact h4 m q₁ (Nat.le_of_succ_le_succ hi) (Nat.lt_of_succ_lt_succ hm) e
theorem Eb (l : Addr) (items : Array Value) (n : Nat) (dd : Option Addr) (sl : Array (Option Value)) (x : Value) (e : Value → Bool) (i : Nat) (t : Tok) (j : Nat) (hj : j < items.size) (hsmall : (j : Int) < 2 ^ 63 - 1) (hij : i ≤ j) (hfit : (i : Int) < 2 ^ 62)
  (hit : e items[j] = true) (hno : ∀ m (hm : m < items.size), i ≤ m → m < j → e items[m] = false) :
  Meets (Builtin.«list.index» ⟨[.ref l, x, .int i t], []⟩)
   (fun A R s => s.heap.get? l = some { cls := .type "list", dict := dd, data := .seq items n, slots := sl } ∧ (∀ y, y ∈ items → SeqAt.EqAt A.in1 s y x (e y)) ∧ R (.ok (.ret (.int j s.toks))) { s with toks := s.toks + 1 }) := by
 intro prog w A R s h
 obtain ⟨hp, g, d, tk, os⟩ := s; obtain ⟨hl, he, h⟩ := h
 wp_walk using wpAny_loadPart' hl
 have a1 : ((fun k : Int => if k < 0 then max 0 (k + (items.size : Int)) else k) ((some (i : Int)).getD 0)) = ((i : Nat) : Int) := by simp; omega
 have a2 : ((fun i : Int => if i < 0 then max 0 (i + (items.size : Int)) else i) ((none : Option Int).getD (2 ^ 63 - 1))) = 2 ^ 63 - 1 := by simp
 rw [a1, a2]
 exact ⟨plainId_quiet MeetsSeq.plain_index_loop _, codeAny_builtin MeetsSeq.entry_index_loop (by
  rw [Around.under_plainId MeetsSeq.plain_index_loop _]
  exact SeqAt.index_loopAt l items n dd sl x e (2 ^ 63 - 1) j hj hsmall hit _ i rfl hij (fun m hm h1 h2 => hno m hm h1 h2) prog w A R _ ⟨hl, he, h⟩)⟩
theorem CT {h : Heap} {vs : List Value} : ∀ {ps : List PyData} {as : List Addr}, ReadsAll h vs ps as → PyData.canLayAll0 ps = true → ∀ {j : Nat} {v : Value}, vs[j]? = some v → ∃ q, ps[j]? = some q ∧ SeqAt.readOf h v = q := by
 induction vs with
 | nil => intro ps as r hc j v e; cases e
 | cons w vs ih =>
  intro ps as r hc j v e
  cases r with
  | cons r1 r2 =>
   have hc' := Bool.and_eq_true_iff.mp hc
   cases j with
   | zero => cases e; exact ⟨_, rfl, SeqAt.readOf_eq hc'.1 r1⟩
   | succ j => exact ih r2 hc'.2 e
theorem C7 {h : Heap} {vs : List Value} : ∀ {ps : List PyData} {as : List Addr}, ReadsAll h vs ps as → vs.length = ps.length := by
 induction vs with
 | nil => intro ps as r; cases r; rfl
 | cons w vs ih => intro ps as r; cases r with | cons _ r => exact congrArg (· + 1) (ih r)
set_option tactic.hygienic true in
theorem IG {G : Gd} : OpN G (fun vs => call (.builtin "list.index") vs []) Ck := by
 intro cx sc ok ρ S s vs ds t rel q e Q E out
 unfold Ck at e
 split at e
 ·rename_i ds' x i
  split at e
  ·rename_i ps p hps hp
   split at e
   ·rename_i hs
    simp only [Bool.and_eq_true, decide_eq_true_eq] at hs
    obtain ⟨⟨hs1, hs2⟩, hi0, hi1, hl1⟩ := hs
    obtain ⟨j, hj, rfl⟩ := Option.map_eq_some_iff.mp e
    obtain ⟨hij, ⟨qj, hqj, hqe⟩, hno⟩ := Dy hj
    cases q with
    | cons qx q =>
     cases q with
     | cons qv q =>
      cases q with
      | cons qi q =>
       cases q
       obtain ⟨u, rfl⟩ := qi.int
       obtain ⟨as, rl⟩ := RV.reads qx.any (CF hps)
       obtain ⟨bs, rp⟩ := RV.reads qv.any hp
       cases rl with
       | list h1 h2 h3 h4 =>
        rename_i a o items n as'
        obtain ⟨cls, dd, data, sl⟩ := o
        simp only at h2 h3
        subst h2 h3
        obtain ⟨k, rfl⟩ := Int.eq_ofNat_of_zero_le hi0
        have sh := K2 hs1
        have room := ok.room.2
        have hu : cx.A.units + 1 + min (PyData.depthAll ps) p.depth < cLine := by unfold cLine; have := Nat.min_le_left (PyData.depthAll ps) p.depth; omega
        have hlen := C7 h4
        have hjl : j < ps.length := (List.getElem?_eq_some_iff.mp hqj).1
        have hjs : j < items.size := by rw [← Array.length_toList, hlen]; exact hjl
        have at_ : ∀ m (hm : m < items.size), ∃ q, ps[m]? = some q ∧ SeqAt.readOf s.heap items[m] = q := fun m hm => CT h4 sh.1 (j := m) (v := items[m]) (by rw [Array.getElem?_toList]; exact Array.getElem?_eq_getElem hm)
        refine call_meets PySem.F.slot_list_index ⟨_, h1, rfl⟩ PySem.F.entry_list_index (PySem.F.args_list_index_3 _ _ _)
         (Eb a items n dd sl _ (fun y => PyData.eqv (SeqAt.readOf s.heap y) p) k u j hjs (by omega) (by simpa using hij) (by omega) ?_ ?_) ⟨h1, SeqAt.items_eqAt h4 rp sh.1 (SeqAt.canLay_of_shaped hs2) hu, ZS out rel (.int _ _)⟩
        ·obtain ⟨q, e1, e2⟩ := at_ j hjs
         rw [hqj] at e1; cases e1
         show PyData.eqv (SeqAt.readOf s.heap items[j]) p = true
         rw [e2]; exact hqe
        ·intro m hm h1 h2
         obtain ⟨q, e1, e2⟩ := at_ m hm
         show PyData.eqv (SeqAt.readOf s.heap items[m]) p = false
         rw [e2]
         exact hno m q (by simpa using h1) h2 e1
   ·cases e
  ·cases e
 ·cases e
noncomputable def CL (F : List D → Option T) (f : AEnv → Res Bv) (fa : AEnv → Res (List Bv)) : AEnv → Res T := fun ρ => (f ρ).bind fun a ρ₁ => match a.get ρ₁ with
 | some (.list ds) => if ds.all Fs then .stuck else (fa ρ₁).bind fun bs ρ₂ => (match Zx ρ₂ (a :: bs) with
  | some ds => (match F ds with | some t => .ok t ρ₂ | none => .stuck)
  | none => .stuck)
 | _ => .stuck
set_option tactic.hygienic true in
theorem Gs {G : Gd} {k : Nat} {sc : Scope} {o : Expr} {name : Str} {id : String} {args : List Expr} {apos pos : Pos} {F : List D → Option T} {f : AEnv → Res Bv} {fa : AEnv → Res (List Bv)} (slot : Slot "list" name id) (hty : typeOf (.builtin id) = pure (.type "method_descriptor")) (hop : OpN G (fun vs => call (.builtin id) vs []) F)
  (ho : Qh G k sc o f) (ha : Uz G k sc args fa) (hbase : ∀ env, attributeBase o name env (eval o env) = eval o env := by intro _; rfl) (hfew : ∀ env, ((backTo pos (starEach args env)).all (fun x => !x.1) && (backToKw pos (keywordEach [] env)).all (fun x => x.1.isSome) && decide (args.length + ([] : List Keyword).length + (if ([] : List Keyword).isEmpty then 0 else 1) < 30)) = true := by intro _; rfl) (hline : (apos.endLine == pos.line) = true := by rfl) (hu : args.all XH = true := by kernel_rfl) :
  Sim G k sc (.Call (.Attribute o name apos) args [] pos) (CL F f fa) := by
 intro cx ok ρ S s r Q E out
 refine wpAny_Call_method (hbase _) (hfew _) hline PySem.F.plainAttrs_list slot hty ?_
 refine ho cx ok ρ S s r _ _ ?_
 refine out.step0 fun a ρ₁ out v h₁ t₁ S₁ r₁ j₁ x₁ v₁ => ?_
 split at out
 ·rename_i ds₀ hx
  split at out
  ·exact out.elim
  rename_i hni
  obtain ⟨b, ob, vs₀, n₀, rfl, e1, e2, e3, q₀⟩ := (Z5.rb j₁ r₁ hx).list
  refine ⟨⟨ob, e1, e2⟩, (fun c ec => ?_), ?_⟩
  ·cases ec
   exact ⟨ob, e1, (Z5.rb j₁ r₁ hx).bare e1⟩
  refine Ud (fun a e => by cases e) (J9 args hu) (Yi hu ?_)
  refine ha pos cx ok ρ₁ S₁ { s with heap := h₁, toks := t₁ } r₁ _ _ ?_
  refine out.step (x₁) fun bs ρ' out ws h₂ t₂ S₂ r₂ j₂ x₂ v₂ => ?_
  split at out
  ·rename_i es hes
   split at out
   ·rename_i t ht
    refine hop cx sc (ok.mono (Nat.zero_le _)) ρ' S₂ { s with heap := h₂, toks := t₂ } _ es t r₂ (BVals.all (.cons (Z5.ext j₁ x₂ (v₂ rfl)) j₂) r₂ hes) ht Q E ?_
    intro w h₃ t₃ S₃ r₃ j₃ x₃ v₃
    exact out w h₃ t₃ S₃ r₃ j₃ ((x₁.trans x₂).trans x₃) fun q => ((v₁ q).trans (v₂ q)).trans (v₃ q)
   ·exact out.elim
  ·exact out.elim
 ·exact out.elim
section
variable {prog : Program} {w : World} {A : Around} {E : Value → Shared → Prop} {s : Shared}
end
section
variable {G : Gd} {A : Around} {tg : Expr}
end
end Mine
end

section
set_option Elab.async false
set_option maxRecDepth 100000
namespace Mine
open PySem PyProof.Rows
section
variable {G : Gd} {k : Nat} {sc : Scope} {x : Str} {p : Pos} {args : List Expr} {pos : Pos}
theorem atr (g : Gr G) (C : Addr) {n : Str} (i : Nat) (hx : (Qm sc)[i]? = some x := by kernel_rfl) (hd : (x == ("__debug__" : Str)) = false := by kernel_rfl) (hn : (x == ("__classdict__" : Str)) = false := by kernel_rfl)
  (hga : W.findIn G.K (.ref C) "__getattribute__" = some (some (.builtin "object.__getattribute__")) := by kernel_rfl) (hc : (W.clsIn G.K C).any (·.hasDict) = true := by kernel_rfl) (hf : W.findIn G.K (.ref C) n = some none := by kernel_rfl) : Sim G k sc (.Attribute (.Name x p) n pos) (Oy C n i) := Hg g.ok hx hd hn hga hc hf
theorem mtd (g : Gr G) (C f : Addr) (i : Nat) {n : Str} {apos : Pos} {k' : Nat} {F : List D → FOut} {fa : AEnv → Res (List Bv)} (hF : Zy G k' (.ref f) F) (ha : Uz G k sc args fa) (hk : k' ≤ k := by decide) (hfn : Kv G.K f = true := by kernel_rfl) (hu : args.all XH = true := by kernel_rfl)
  (hx : (Qm sc)[i]? = some x := by kernel_rfl) (hd : (x == ("__debug__" : Str)) = false := by kernel_rfl) (hn : (x == ("__classdict__" : Str)) = false := by kernel_rfl)
  (hfew : ∀ env, ((backTo pos (starEach args env)).all (fun x => !x.1) && (backToKw pos (keywordEach [] env)).all (fun x => x.1.isSome) && decide (args.length + ([] : List Keyword).length + (if ([] : List Keyword).isEmpty then 0 else 1) < 30)) = true := by intro _; rfl) (hline : (apos.endLine == pos.line) = true := by rfl)
  (hga : W.findIn G.K (.ref C) "__getattribute__" = some (some (.builtin "object.__getattribute__")) := by kernel_rfl) (hgt : W.findIn G.K (.ref C) "__getattr__" = some none := by kernel_rfl) (hf : W.findIn G.K (.ref C) n = some (some (.ref f)) := by kernel_rfl) (hty : W.typeIn G.K (.ref f) = some (.type "function") := by kernel_rfl) :
  Sim G k sc (.Call (.Attribute (.Name x p) n apos) args [] pos) (J0 C n i F fa) := by
 obtain ⟨fo, h1, h2⟩ := FI g hfn
 exact Iq g.ok hF hk h1 h2 ha hu hx hd hn hfew hline hga hgt hf hty
theorem mak (g : Gr G) (C f : Addr) {ns : List Str} {k' : Nat} {I : Addr → List D → IOut} {fa : AEnv → Res (List Bv)} (hI : OU G k' (.ref f) C ns I) (ha : Uz G k sc args fa) (hk : k' + 1 ≤ k := by decide) (hu : args.all XH = true := by kernel_rfl)
  (e : W.nsIn G.K mainGlobals x = some (some (.ref C)) := by kernel_rfl) (ho : (G.K.lookup C).isSome = true := by kernel_rfl) (hx : sc.names.lookup x = some .globalImplicit := by kernel_rfl) (hd : (x == ("__debug__" : Str)) = false := by kernel_rfl)
  (hpl : ∀ env, ((backTo pos (starEach args env)).any (·.1) || ([] : List (Option Str × Sem Value)).any (·.1.isNone)) = false := by intro _; rfl) (hkp : W.keepIn G.K (.ref C) = true := by kernel_rfl) (hm : W.makesIn G.K C = true := by kernel_rfl) (hi : W.findIn G.K (.ref C) "__init__" = some (some (.ref f)) := by kernel_rfl) (hf : W.typeIn G.K (.ref f) = some (.type "function") := by kernel_rfl) :
  Sim G k sc (.Call (.Name x p) args [] pos) (Ef C ns I fa) := Ic g.ok (gF g C e ho hx hd) hI hk ha hu hpl hkp hm hi hf
theorem tC {C : Addr} {i₀ : Nat} {sf n : Str} {ap : Pos} {value : Expr} {f : AEnv → Res T} {sts : List Stmt} {ts : List (Str × (AEnv → Res T))} (h : Sim G k sc value f) (hr : STail G k sc C i₀ sf sts ts) (hsw : ∀ env : Env, swapsWithSole [.Attribute (.Name sf p) n ap] value pos.line env = pure false := by intro _; rfl) (hw : ∀ env : Env, swappedStores [.Attribute (.Name sf p) n ap] value env = pure none := by intro _; rfl) (ht : W.takerIn G.K C n = some none := by kernel_rfl) :
  STail G k sc C i₀ sf (.Assign [.Attribute (.Name sf p) n ap] value pos :: sts) ((n, f) :: ts) := .cons h (fun env _ => hsw env) hw ht hr
theorem LR (g : Gr G) (a : Addr) (n : Nat) (is : List Nat) (i₀ : Nat) (C : Addr) (sf : Str) {f : AEnv → Res Fl} {sts : List Stmt} {ts : List (Str × (AEnv → Res T))} (h : SPre G k (Zc G.K a).scope sts (UG (Zc G.K a)) f) (ht : STail G k (Zc G.K a).scope C i₀ sf sts ts)
  (hbind : ∀ vs : List Value, vs.length = (Zg (Zc G.K a)).length → bindArgs (Zc G.K a) ⟨vs, []⟩ = pure ((Zg (Zc G.K a)).zip vs)) (hn : (Qm (Zc G.K a).scope).length = n := by kernel_rfl) (hi : Ui (Qm (Zc G.K a).scope) (Zg (Zc G.K a)) = is := by kernel_rfl) (hsf : (Qm (Zc G.K a).scope)[i₀]? = some sf := by kernel_rfl)
  (hdb : (sf == ("__debug__" : Str)) = false := by kernel_rfl) (hcd : (sf == ("__classdict__" : Str)) = false := by kernel_rfl) (hp : W.plainOver G.K C = true := by kernel_rfl) (hh : (W.clsIn G.K C).any (·.hasDict) = true := by kernel_rfl)
  (hs : W.findIn G.K (.ref C) "__setattr__" = some (some (.builtin "object.__setattr__")) := by kernel_rfl) (hnd : WI (ts.map (·.1)) = true := by kernel_rfl) (hnl : Nat.ble ts.length 100 = true := by kernel_rfl)
  (hf : Kv G.K a = true := by kernel_rfl) (hc : W.codeIn G.K (Zc G.K a).code (Zc G.K a).qualname = true := by kernel_rfl) (hpl : K6 (Zc G.K a) = true := by kernel_rfl) :
  OU G (k + 1) (.ref a) C (ts.map (·.1)) (DN n is i₀ f ts) := H8 g a n is i₀ C sf h ht hbind hn hi hsf hdb hcd hp hh hs hnd (Nat.le_of_ble_eq_true hnl) hf hc hpl
theorem sdM (i : Nat) {apos : Pos} {e1 e2 : Expr} {f g : AEnv → Res Bv} (h1 : Qh G k sc e1 f) (h2 : Qh G k sc e2 g) (hx : (Qm sc)[i]? = some x := by kernel_rfl) (hd : (x == ("__debug__" : Str)) = false := by kernel_rfl) (hn : (x == ("__classdict__" : Str)) = false := by kernel_rfl)
  (hu : ∀ env, backTo pos (starEach [e1, e2] env) = [(false, eval e1 env), (false, eval e2 env)] := by intro _; rfl) (hline : (apos.endLine == pos.line) = true := by rfl) : YH G k sc (.Call (.Attribute (.Name x p) "setdefault" apos) [e1, e2] [] pos) (UF i f g) := VS h1 h2 hx hd hn hu hline
end
end Mine
end

section
set_option Elab.async false
set_option maxRecDepth 100000
namespace Mine
open PySem PyProof.Rows
noncomputable def Oe (is : List Nat) (f : AEnv → Res T) : AEnv → Res Fl := fun ρ => (f ρ).bind fun t ρ₁ => match t with
 | .sh d => match ZD is d ρ₁ with
  | some ρ₂ => .ok .next ρ₂
  | none => .stuck
 | .ow _ _ => .stuck
section
variable {G : Gd} {k : Nat} {sc : Scope}
theorem Gq {es : List Expr} {xs : List Str} {is : List Nat} {n : Nat} {tp pos : Pos} {value : Expr} {f : AEnv → Res T} (hn : Names sc es xs is) (h : Sim G k sc value f) (hxs : ∀ x ∈ xs, sc.names.lookup x = some .local ∨ sc.names.lookup x = some .cell)
  (hs : ∀ env, swapsWithSole [.Tuple es n tp] value pos.line env = pure false) (hw : ∀ env, swappedStores [.Tuple es n tp] value env = pure none) : Jk G k sc (.Assign [.Tuple es n tp] value pos) (Oe is f) := by
 intro cx ok fn ρ S s r Q E out
 refine Assign_Tuple ?_ (hs _) (hw _)
 refine (h cx ok ρ S s r).loose (same := false) _ _ ?_
 unfold Oe at out
 cases hf : f ρ with
 | stuck => rw [hf] at out; exact out
 | exc C ρ' => rw [hf] at out; exact out
 | ok t ρ' =>
  rw [hf] at out
  simp only [Res.bind] at out
  cases t with
  | ow m d => exact out.elim
  | sh d =>
   simp only at out
   cases hb : ZD is d ρ' with
   | none => rw [hb] at out; exact out.elim
   | some ρ'' =>
    rw [hb] at out
    intro v h₁ t₁ S₁ r₁ j₁ x₁ _
    have hn' : ∀ x ∈ xs, W2 cx sc x := fun x hx => (hxs x hx).imp id fun q => ⟨q, fn.has x (by unfold Env.kindOf; rw [ok.hsc]; exact q)⟩
    refine BB hn cx k ok fn.toFnCx hn' ρ' S₁ { s with heap := h₁, toks := t₁ } v d ρ'' r₁ j₁ hb _ _ ?_
    intro _ h₂ t₂ S₂ r₂ _ x₂ _
    exact out .next h₂ t₂ S₂ r₂ trivial (x₁.trans x₂) fun z => by cases z
theorem nmN : Names sc [] [] [] := .nil
theorem nmC {x : Str} {p : Pos} {es : List Expr} {xs : List Str} {is : List Nat} (i : Nat) (h : Names sc es xs is) (hx : (Qm sc)[i]? = some x := by kernel_rfl) : Names sc (.Name x p :: es) (x :: xs) (i :: is) := .cons hx h
theorem LM {es : List Expr} {xs : List Str} {is : List Nat} {n : Nat} {tp pos : Pos} {value : Expr} {f : AEnv → Res T} (hn : Names sc es xs is) (h : Sim G k sc value f) (hxs : (xs.all fun x => sc.names.lookup x == some .local || sc.names.lookup x == some .cell) = true := by kernel_rfl)
  (hs : ∀ env, swapsWithSole [.Tuple es n tp] value pos.line env = pure false := by intro _; rfl) (hw : ∀ env, swappedStores [.Tuple es n tp] value env = pure none := by intro _; rfl) : Jk G k sc (.Assign [.Tuple es n tp] value pos) (Oe is f) :=
 Gq hn h (fun x hx => by simpa using List.all_eq_true.mp hxs x hx) hs hw
end
theorem FC {is : List Nat} {f : AEnv → Res T} {ρ ρ₁ ρ₂ : AEnv} {d : D} (h1 : f ρ = .ok (.sh d) ρ₁) (h2 : ZD is d ρ₁ = some ρ₂) : Oe is f ρ = .ok .next ρ₂ := by
 unfold Oe; rw [h1]; simp only [Res.bind, h2]
end Mine
end

section
set_option Elab.async false
set_option maxRecDepth 100000
namespace Mine
open PySem PyProof.Rows
noncomputable def W3 (i : Nat) (f : AEnv → Res T) : AEnv → Res T := fun ρ => match XK ρ i with
 | none => .stuck
 | some _ => (f ρ).bind fun t ρ₁ => match t with
  | .ow _ (.list es) => (match XK ρ₁ i with
   | some ds => if ds.length + es.length ≤ 1000000 then .ok (.sh .none) (ρ₁.set i (some (.ow true (.list (ds ++ es))))) else .stuck
   | none => .stuck)
  | _ => .stuck
noncomputable def D4 (i : Nat) : AEnv → Res T := fun ρ => match XK ρ i with
 | some ds => (match ds.getLast? with
  | some d => .ok (.sh d) (ρ.set i (some (.ow true (.list ds.dropLast))))
  | none => .stuck)
 | none => .stuck
noncomputable def UV (i : Nat) : AEnv → Res T := fun ρ => match XK ρ i with
 | some ds => .ok (.sh .none) (ρ.set i (some (.ow true (.list ds.reverse))))
 | none => .stuck
section
variable {G : Gd} {k : Nat} {sc : Scope}
theorem EZ {x : Str} {p apos pos : Pos} {e : Expr} {i : Nat} {f : AEnv → Res T} (he : Sim G k sc e f) (hx : (Qm sc)[i]? = some x) (hd : (x == ("__debug__" : Str)) = false) (hn : (x == ("__classdict__" : Str)) = false)
  (hu : ∀ env, backTo pos (starEach [e] env) = [(false, eval e env)]) (hline : (apos.endLine == pos.line) = true) : YH G k sc (.Call (.Attribute (.Name x p) "extend" apos) [e] [] pos) (W3 i f) := by
 intro cx ok fn ρ S s r Q E out
 unfold W3 at out
 cases h0 : XK ρ i with
 | none => rw [h0] at out; exact out.elim
 | some ds₀ =>
  rw [h0] at out
  obtain ⟨t0, l0⟩ := ZP h0
  obtain ⟨a, vs, n, hv, ho, q, hsz⟩ := r.own hx t0
  refine wpAny_Call_method rfl (by rw [hu]; rfl) hline F.plainAttrs_list F.slot_list_extend F.type_list_extend ?_
  refine wpAny_Name (Ze (ok.mono (Nat.zero_le _)) hv hn rfl ?_) hd
  refine ⟨⟨_, ho, rfl⟩, fun b eb => ?_, ?_⟩
  ·cases eb; exact ⟨_, ho, rfl⟩
  rw [hu]
  refine PySem.P.extend_list ?_
  refine he cx ok ρ S s r _ _ ?_
  refine out.step0 fun t ρ₁ out v h₁ t₁ S₁ r₁ j₁ x₁ v₁ => ?_
  cases t with
  | sh d => exact out.elim
  | ow m d =>
   cases d with
   | list es =>
    have out : Out G cx sc true S s (fun S' h' v t => Ul cx S' h' v t) Q E (match XK ρ₁ i with | some ds => if ds.length + es.length ≤ 1000000 then .ok (T.sh .none) (ρ₁.set i (some (.ow true (.list (ds ++ es))))) else .stuck | none => .stuck) := out
    cases h1 : XK ρ₁ i with
    | none => rw [h1] at out; exact out.elim
    | some ds =>
     rw [h1] at out
     have out : Out G cx sc true S s (fun S' h' v t => Ul cx S' h' v t) Q E (if ds.length + es.length ≤ 1000000 then .ok (T.sh .none) (ρ₁.set i (some (.ow true (.list (ds ++ es))))) else .stuck) := out
     by_cases hl : ds.length + es.length ≤ 1000000
     ·rw [if_pos hl] at out
      obtain ⟨e1, l1⟩ := ZP h1
      obtain ⟨a', vs', n', hv', ho', q', hsz'⟩ := r₁.own hx e1
      cases Var.inj hv' (v₁ rfl x _ hv)
      obtain ⟨b, rfl, _, ⟨ws, m', hb, qb⟩, _⟩ := j₁
      have hws : ws.size = es.length := by rw [← qb.length]; exact Array.length_toList.symm
      refine ⟨b, vs', ws, n', m', ?_, ?_, ?_, rfl, ho', hb, ?_⟩
      ·rw [hsz', sizeLine_eq]; exact omB l1
      ·rw [hsz', hws, sizeLine_eq]; exact Nat.le_trans hl (Nat.le_add_left _ _)
      ·rw [hsz', hws]
       have : Builtin.List.listTooLong (ds.length + es.length) = false := by
        unfold Builtin.List.listTooLong
        rw [sizeLine_eq]
        exact decide_eq_false (by lia)
       rw [this, Bool.and_false]; decide
      ·obtain ⟨m₂, hm₂⟩ := YV (fun xs => xs ++ ws) ho'
       obtain ⟨r₂, x₂, v₂⟩ := r₁.mutate fn.bh hx e1 hv' (Heap.SameBut.update ..) hm₂ (ds' := ds ++ es) (by rw [Array.toList_append]; exact RVs.append qb q')
       exact out _ _ t₁ S₁ r₂ .none (x₁.trans x₂) fun z => (v₁ z).trans v₂
     ·rw [if_neg hl] at out; exact out.elim
   | _ => exact out.elim
theorem Ht {x : Str} {p apos pos : Pos} {i : Nat} (hx : (Qm sc)[i]? = some x) (hd : (x == ("__debug__" : Str)) = false) (hn : (x == ("__classdict__" : Str)) = false) (hline : (apos.endLine == pos.line) = true) : YH G k sc (.Call (.Attribute (.Name x p) "pop" apos) [] [] pos) (D4 i) := by
 intro cx ok fn ρ S s r Q E out
 unfold D4 at out
 cases h0 : XK ρ i with
 | none => rw [h0] at out; exact out.elim
 | some ds =>
  rw [h0] at out
  have out : Out G cx sc true S s (fun S' h' v t => Ul cx S' h' v t) Q E (match ds.getLast? with | some d => .ok (T.sh d) (ρ.set i (some (.ow true (.list ds.dropLast)))) | none => .stuck) := out
  cases hl : ds.getLast? with
  | none => rw [hl] at out; exact out.elim
  | some d =>
   rw [hl] at out
   obtain ⟨t0, l0⟩ := ZP h0
   obtain ⟨a, vs, n, hv, ho, q, hsz⟩ := r.own hx t0
   refine wpAny_Call_method rfl rfl hline F.plainAttrs_list F.slot_list_pop F.type_list_pop ?_
   refine wpAny_Name (Ze (ok.mono (Nat.zero_le _)) hv hn rfl ?_) hd
   refine ⟨⟨_, ho, rfl⟩, fun b eb => ?_, ?_⟩
   ·cases eb; exact ⟨_, ho, rfl⟩
   rw [List.getLast?_eq_getElem?] at hl
   obtain ⟨y, hy, ry⟩ := q.get hl
   have hy' : vs[vs.size - 1]? = some y := by rw [hsz]; simpa using hy
   refine PySem.P.pop_list ho hy' ?_ (by rw [hsz, sizeLine_eq]; exact omB l0)
   obtain ⟨m', hm'⟩ := YV (fun xs => xs.eraseIdxIfInBounds (vs.size - 1)) ho
   have hlt : ds.length - 1 < ds.length := (List.getElem?_eq_some_iff.mp hl).1
   have hj' : vs.size - 1 < vs.size := by (rw [hsz]; exact hlt)
   obtain ⟨r₂, x₂, v₂⟩ := r.mutate fn.bh hx t0 hv (Heap.SameBut.update ..) hm' (ds' := ds.dropLast) (by
    rw [Array.eraseIdxIfInBounds, dif_pos hj', Array.toList_eraseIdx, hsz, List.eraseIdx_eq_take_drop_succ, List.drop_of_length_le (by rw [Array.length_toList, hsz]; lia), List.append_nil, List.dropLast_eq_take]; exact q.take _)
   exact out _ _ s.toks S r₂ (ry.ext x₂) x₂ fun _ => v₂
theorem DT {x : Str} {p apos pos : Pos} {i : Nat} (hx : (Qm sc)[i]? = some x) (hd : (x == ("__debug__" : Str)) = false) (hn : (x == ("__classdict__" : Str)) = false) (hline : (apos.endLine == pos.line) = true) : YH G k sc (.Call (.Attribute (.Name x p) "reverse" apos) [] [] pos) (UV i) := by
 intro cx ok fn ρ S s r Q E out
 unfold UV at out
 cases h0 : XK ρ i with
 | none => rw [h0] at out; exact out.elim
 | some ds =>
  rw [h0] at out
  obtain ⟨t0, l0⟩ := ZP h0
  obtain ⟨a, vs, n, hv, ho, q, hsz⟩ := r.own hx t0
  refine wpAny_Call_method rfl rfl hline F.plainAttrs_list F.slot_list_reverse F.type_list_reverse ?_
  refine wpAny_Name (Ze (ok.mono (Nat.zero_le _)) hv hn rfl ?_) hd
  refine ⟨⟨_, ho, rfl⟩, fun b eb => ?_, ?_⟩
  ·cases eb; exact ⟨_, ho, rfl⟩
  refine PySem.P.reverse_list ho ?_ (by rw [hsz, sizeLine_eq]; exact omB l0)
  obtain ⟨m', hm'⟩ := YV (fun xs => xs.reverse) ho
  obtain ⟨r₂, x₂, v₂⟩ := r.mutate fn.bh hx t0 hv (Heap.SameBut.update ..) hm' (ds' := ds.reverse) (by rw [Array.toList_reverse]; exact q.reverse)
  exact out _ _ s.toks S r₂ .none x₂ fun _ => v₂
theorem Mc {x : Str} {p pos : Pos} {value : Expr} {f : AEnv → Res T} (i : Nat) (h : YH G k sc value f) (hx : (Qm sc)[i]? = some x := by kernel_rfl) (hk : (sc.names.lookup x == some .local || sc.names.lookup x == some .cell) = true := by kernel_rfl) (hcl : Zr x = false := by kernel_rfl) (hs : ∀ env : Env, swapsWith value (some (.Name x p)) pos.line env = pure false := by intro _; rfl) : Jk G k sc (.Assign [.Name x p] value pos) (Qx i f) :=
 C2 h hx (by simpa using hk) hcl fun env _ => hs env
theorem LZ {x : Str} {p apos pos : Pos} {e : Expr} {f : AEnv → Res T} (i : Nat) (he : Sim G k sc e f) (hx : (Qm sc)[i]? = some x := by kernel_rfl) (hd : (x == ("__debug__" : Str)) = false := by kernel_rfl) (hn : (x == ("__classdict__" : Str)) = false := by kernel_rfl) (hu : ∀ env, backTo pos (starEach [e] env) = [(false, eval e env)] := by intro _; rfl) (hline : (apos.endLine == pos.line) = true := by rfl) : YH G k sc (.Call (.Attribute (.Name x p) "extend" apos) [e] [] pos) (W3 i f) := EZ he hx hd hn hu hline
theorem LA {x : Str} {p apos pos : Pos} (i : Nat) (hx : (Qm sc)[i]? = some x := by kernel_rfl) (hd : (x == ("__debug__" : Str)) = false := by kernel_rfl) (hn : (x == ("__classdict__" : Str)) = false := by kernel_rfl) (hline : (apos.endLine == pos.line) = true := by rfl) : YH G k sc (.Call (.Attribute (.Name x p) "pop" apos) [] [] pos) (D4 i) := Ht hx hd hn hline
theorem LX {x : Str} {p apos pos : Pos} (i : Nat) (hx : (Qm sc)[i]? = some x := by kernel_rfl) (hd : (x == ("__debug__" : Str)) = false := by kernel_rfl) (hn : (x == ("__classdict__" : Str)) = false := by kernel_rfl) (hline : (apos.endLine == pos.line) = true := by rfl) : YH G k sc (.Call (.Attribute (.Name x p) "reverse" apos) [] [] pos) (UV i) := DT hx hd hn hline
end
end Mine
end

section
set_option Elab.async false
set_option maxRecDepth 100000
namespace Mine
open PySem PyProof.Rows
noncomputable def HX : List Int → Option Int
 | [] => none
 | n :: ns => some (ns.foldl (fun a b => if b < a then b else a) n)
theorem Ig (ns : List Int) : ∀ n, (ns.foldl (fun a b => if b < a then b else a) n ∈ n :: ns) ∧ ∀ a, a ∈ n :: ns → ns.foldl (fun a b => if b < a then b else a) n ≤ a := by
 induction ns with
 | nil => intro n; exact ⟨.head _, fun a h => by rw [List.mem_singleton.mp h]; exact Int.le_refl _⟩
 | cons m ns ih =>
  intro n
  rw [List.foldl_cons]
  by_cases h : m < n
  ·rw [if_pos h]
   obtain ⟨h1, h2⟩ := ih m
   refine ⟨.tail _ h1, fun a ha => ?_⟩
   rcases List.mem_cons.mp ha with rfl | ha
   ·exact Int.le_trans (h2 m (.head _)) (Int.le_of_lt h)
   ·exact h2 a ha
  ·rw [if_neg h]
   obtain ⟨h1, h2⟩ := ih n
   refine ⟨?_, fun a ha => ?_⟩
   ·rcases List.mem_cons.mp h1 with h1 | h1
    ·rw [h1]; exact .head _
    ·exact .tail _ (.tail _ h1)
   ·rcases List.mem_cons.mp ha with rfl | ha
    ·exact h2 a (.head _)
    ·rcases List.mem_cons.mp ha with rfl | ha
     ·exact Int.le_trans (h2 n (.head _)) (Int.not_lt.mp h)
     ·exact h2 a (.tail _ ha)
theorem CB {ns : List Int} {m M : Int} (e : HX ns = some m) (h1 : M ∈ ns) (h2 : ∀ a, a ∈ ns → M ≤ a) : m = M := by
 cases ns with
 | nil => cases e
 | cons n ns =>
  cases e
  obtain ⟨g1, g2⟩ := Ig ns n
  exact Int.le_antisymm (g2 M h1) (h2 _ g1)
noncomputable def L7 : D → Option T
 | .list ds => (Up ds).bind fun ns => (HX ns).map fun m => .sh (.int m)
 | _ => none
noncomputable def Ga : List D → Option T
 | [x] => L7 x
 | [x, y] => (asI x).bind fun a => (asI y).map fun b => .sh (.int (if b < a then b else a))
 | _ => none
theorem Hk {G : Gd} (hq : G.quiet = true) : OpN G (fun vs => call (.builtin "min") vs []) Ga := by
 intro cx sc ok ρ S s vs ds t rel q e Q E out
 cases ds with
 | nil => exact nn e
 | cons x ds =>
  cases ds with
  | nil =>
   cases x with
   | list es =>
    obtain ⟨ns, hn, e1⟩ := Option.bind_eq_some_iff.mp e
    obtain ⟨m, hm, rfl⟩ := Option.map_eq_some_iff.mp e1
    obtain ⟨v, rfl, r⟩ := q.one
    obtain ⟨a, o, us, n, rfl, h1, h2, h3, k⟩ := r.list
    have hi := Bj k hn
    have hall : AllInts us := hi.allInts
    have hnum : numsOf us.toList = ns := hi.numsOf
    have il : s.heap.IsList a us := ⟨o, h1, h2, n, h3⟩
    obtain ⟨xs, rfl⟩ := hall.items
    rw [nums_intItems] at hnum
    have hsz : 0 < xs.size := by
     cases hz : xs.size with
     | zero =>
      have : xs = #[] := Array.size_eq_zero_iff.mp hz
      subst this
      rw [← hnum] at hm
      cases hm
     | succ _ => exact Nat.succ_pos _
    refine min_intList (ok.hd hq) il hsz fun v h' tk hv hk => ?_
    obtain ⟨t, rfl⟩ := intItems_at hv
    obtain ⟨g1, g2⟩ := argBest_lt (numAt xs) (xs.size - 1)
    obtain ⟨r', x', v'⟩ := rel.keepsE hk
    have hM : m = numAt xs (argBest (fun i j => decide (numAt xs i < numAt xs j)) (xs.size - 1)) := by
     refine CB hm ?_ fun a ha => ?_
     ·rw [← hnum, numAt_eq]; exact getD_mem (by rw [List.length_map, Array.length_toList]; omega)
     ·rw [← hnum] at ha
      obtain ⟨j, hj, rfl⟩ := mem_getD ha
      rw [List.length_map, Array.length_toList] at hj
      rw [← numAt_eq]; exact g2 j (by exact Nat.le_sub_of_add_le hj)
    rw [← hM]
    exact out _ h' tk S r' (.int _ _) x' fun _ => v'
   | _ => exact nn e
  | cons y ds =>
   cases ds with
   | nil =>
    obtain ⟨a, h1, e1⟩ := Option.bind_eq_some_iff.mp e
    obtain ⟨b, h2, rfl⟩ := Option.map_eq_some_iff.mp e1
    obtain rfl := JD h1
    obtain rfl := JD h2
    obtain ⟨v, w, rfl, r, r'⟩ := q.two
    obtain ⟨u, rfl⟩ := r.int
    obtain ⟨u', rfl⟩ := r'.int
    refine min_two_ints (ok.hd hq) fun h' tk hk => ?_
    obtain ⟨r', x', v'⟩ := rel.keepsE hk
    by_cases hb : b < a
    ·rw [if_pos hb] at out ⊢
     exact out _ h' tk S r' (.int _ _) x' fun _ => v'
    ·rw [if_neg hb] at out ⊢
     exact out _ h' tk S r' (.int _ _) x' fun _ => v'
   | cons _ _ => exact nn e
end Mine
end

section
set_option Elab.async false
set_option maxRecDepth 100000
namespace Mine
open PySem PySem.W PyProof.Rows
theorem Ks {R : WRecords} : ∀ {xs : List WData}, WShape.hasItems R xs .int = true → ∃ ns : List Int, xs = ns.map .int
 | [], _ => ⟨[], rfl⟩
 | x :: xs, h => by
  rw [WShape.hasItems, Bool.and_eq_true_iff] at h
  obtain ⟨ns, rfl⟩ := Ks h.2
  cases x with
  | int i => exact ⟨i :: ns, rfl⟩
  | _ => exact Bool.noConfusion (show false = true from h.1)
theorem H3 {l : OpenLaw} {args : List WData} {n : Nat} (hm : l.most = some n) (hb : l.bound = none) (h : l.row.toRowW.claim.pre args = true) : ∃ ns : List Int, args = [.list (ns.map .int)] ∧ ns.length ≤ n := by
 obtain ⟨h1, h2⟩ := pre_splitW h
 have e1 : l.row.toRowW.args = [.list .int] := rfl
 rw [e1] at h1
 obtain ⟨d, r, rfl, hd, hr⟩ := hasAllW_cons h1
 have hr0 : r = [] := by
  cases r with
  | nil => rfl
  | cons a b => exact Bool.noConfusion (show false = true from hr)
 subst hr0
 have hlist : ∃ xs, d = .list xs ∧ WShape.hasItems l.row.toRowW.records xs .int = true := by
  cases d with
  | list xs =>
   have h' : (WShape.hasItems l.row.toRowW.records xs .int || false) = true := hd
   rw [Bool.or_false] at h'
   exact ⟨xs, rfl, h'⟩
  | _ => exact Bool.noConfusion (show false = true from hd)
 obtain ⟨xs, rfl, hx⟩ := hlist
 obtain ⟨ns, rfl⟩ := Ks hx
 refine ⟨ns, rfl, ?_⟩
 have e2 : l.row.toRowW.pre = .and (.not (.lt (.lit (.int n)) (.len (.arg 0)))) (.lit (.bool true)) := by
  show l.pre = _
  unfold OpenLaw.pre
  rw [hm, hb]
 rw [e2] at h2
 have h3 := (holds_andW h2).1
 by_cases hlt : (n : Int) < (ns.map WData.int).length
 ·exfalso
  have key : WTm.holds l.row.toRowW.records (.not (.lt (.lit (.int n)) (.len (.arg 0)))) { args := [.list (ns.map .int)] } = (match (some (WData.bool (!(decide ((n : Int) < (ns.map WData.int).length)))) : Option WData) with | some (.bool true) => true | _ => false) := rfl
  rw [decide_eq_true hlt] at key
  exact Bool.noConfusion (key.symm.trans h3)
 ·rw [List.length_map] at hlt; (simpa using hlt)
theorem Ev {R : WRecords} {cl : Str → Option Addr} {S : Addr → Prop} {h : Heap} {ns : List Int} : ∀ {vs : List Value} {as : List Addr}, ReadsAllW R cl h vs (ns.map .int) as → RVs S h vs (ns.map .int) ∧ as = [] := by
 induction ns with
 | nil => intro vs as r; cases r; exact ⟨.nil, rfl⟩
 | cons n ns ih =>
  intro vs as r
  cases r with
  | cons r1 r2 =>
   obtain ⟨q, rfl⟩ := ih r2
   cases r1
   exact ⟨.cons (.int _ _) q, rfl⟩
theorem Iy {l : OpenLaw} {w : World} {s₁ : Shared} {mg mb : Str → Option Value} {K : Frag} {a : Addr} {k : Nat} {F : List D → FOut} {args : List WData} {vals : List Value} {as : List Addr} {R : WRecords} {cl cl' : Str → Option Addr} {mean : ExcName → Option Value} (hF : Zy ⟨l.row.toRowW.prog, w, s₁.heap, mg, mb, K, true⟩ k (.ref a) F) (hk : k ≤ 500) (hg : s₁.gens = #[])
  {n : Nat} (hm : l.most = some n) (hb : l.bound = none) (hpre : l.row.toRowW.claim.pre args = true) (hrd : ReadsAllW R cl s₁.heap vals args as) (hwl : WellAll w.params s₁.heap vals args) (hlaw : ∀ ns : List Int, ns.length ≤ n → F [.list (ns.map .int)] = .ok (.sh (.bool true))) :
  wpAny (model l.row.toRowW.prog w) callerA (call (.ref a) vals) (fun v s' => GoodWG l.row.toRowW.claim cl' mean args s₁ (.ok (.ret v)) s') (fun e s' => GoodWG l.row.toRowW.claim cl' mean args s₁ (.error e) s') s₁ := by
 obtain ⟨ns, rfl, hn⟩ := H3 hm hb hpre
 cases hrd with
 | cons r1 r2 =>
  cases r2
  obtain ⟨b, vs, as', rfl, il, ri, _⟩ := readsW_list_inv r1
  obtain ⟨o, h1, h2, m, h3⟩ := il
  have hdn : o.dict = none ∧ o.slots = #[] := by
   cases hwl with
   | cons q _ => cases q with | list e _ => rw [h1] at e; cases e; exact ⟨rfl, rfl⟩
  obtain ⟨q, _⟩ := Ev (S := fun x => x = b) ri
  refine wpAny_call ?_
  refine hF callerA [] (fun x => x = b) s₁ [.ref b] [.list (ns.map .int)] ?_ rfl (fun _ => rfl) (fun v e => by cases e) (fun env he => by cases he) (fun _ _ e => e) (fun x hx => ⟨o, by rw [hx]; exact h1⟩) (.cons (.list rfl h1 ⟨h2, hdn⟩ h3 q) .nil) _ ?_
  ·constructor
   ·show 1 + claimMargin + k ≤ 900
    have : claimMargin = 300 := rfl
    exact Nat.le_trans (Nat.add_le_add_left hk _) (by decide)
   ·show 4 + 8 * k ≤ 9000
    lia
  ·rw [hlaw ns hn]
   intro v h' tk S' kp hB _ _ _ ret
   cases ret
   refine ⟨.inl ⟨.bool true, .bool true, [], rfl, fun _ => rfl, .bool true, ?_, fun _ => ⟨.nil, fun _ hx => by cases hx⟩⟩, .of_keep hB, rfl, ?_⟩
   ·show (WShape.has l.row.toRowW.records (.bool true) .bool && WTm.holds l.row.toRowW.records (.eq .res (.lit (.bool true))) { args := [.list (ns.map .int)], res := some (.bool true), after := [.list (ns.map .int)] }) = true
    have e1 : same (WData.bool true) (WData.bool true) = true := by first | rfl | exact same_self _ | decide | simp [same]
    have e2 : WTm.holds l.row.toRowW.records (.eq .res (.lit (.bool true))) { args := [.list (ns.map .int)], res := some (.bool true), after := [.list (ns.map .int)] } = (match (some (WData.bool (same (WData.bool true) (WData.bool true))) : Option WData) with | some (.bool true) => true | _ => false) := rfl
    rw [e1] at e2
    rw [e2]; rfl
   ·show AllBare s₁.gens
    rw [hg]
    exact .of_eq rfl
end Mine
end

section
set_option Elab.async false
set_option maxRecDepth 100000
namespace Mine
open PySem
theorem KF {b : D → AEnv → Option AEnv} {t : AEnv → Res Bool} {f : AEnv → Res T} {ρ₀ : AEnv} {q : D → Bool} {g : D → D} : ∀ (ds acc : List D), (∀ d ∈ ds, ∃ ρ₁ ρ₂, b d ρ₀ = some ρ₁ ∧ t ρ₁ = .ok (q d) ρ₂ ∧ (q d = true → ∃ v ρ₃, f ρ₂ = .ok v ρ₃ ∧ v.val = g d)) → acc.length + ds.length ≤ 1000000 → Yl b t f ρ₀ ds acc = some (acc ++ (ds.filter q).map g) := by
 intro ds
 induction ds with
 | nil => intro acc _ _; exact congrArg some (List.append_nil acc).symm
 | cons d ds ih =>
  intro acc h hl
  obtain ⟨ρ₁, ρ₂, h1, h2, h3⟩ := h d (.head _)
  rw [List.length_cons] at hl
  have ih := fun acc' => ih acc' fun e he => h e (.tail _ he)
  conv => lhs; whnf
  rw [h1]
  conv => lhs; whnf
  rw [h2]
  cases hq : q d with
  | false =>
   rw [List.filter_cons_of_neg (by rw [hq]; decide)]
   exact ih acc (by exact omL hl)
  | true =>
   obtain ⟨v, ρ₃, h4, h5⟩ := h3 hq
   rw [List.filter_cons_of_pos hq, List.map_cons, ← h5]
   conv => lhs; whnf
   rw [h4]
   refine (if_pos (by exact omP hl)).trans ((ih _ (by rw [List.length_append]; exact Nat.le_trans (Nat.le_of_eq (Nat.add_assoc _ 1 _)) (by rw [Nat.add_comm 1]; exact hl))).trans ?_)
   rw [List.append_assoc]; rfl
theorem Y1 {b : D → AEnv → Option AEnv} {f : AEnv → Res T} {ρ₀ : AEnv} {g : D → D} (ds : List D) (h : ∀ d ∈ ds, ∃ ρ₁ v ρ₃, b d ρ₀ = some ρ₁ ∧ f ρ₁ = .ok v ρ₃ ∧ v.val = g d) (hl : ds.length ≤ 1000000) : Yl b Ux f ρ₀ ds [] = some (ds.map g) := by
 have := KF (b := b) (t := Ux) (f := f) (ρ₀ := ρ₀) (q := fun _ => true) (g := g) ds [] (fun d hd => by
  obtain ⟨ρ₁, v, ρ₃, h1, h2, h3⟩ := h d hd
  exact ⟨ρ₁, ρ₁, h1, rfl, fun _ => ⟨v, ρ₃, h2, h3⟩⟩) (by simpa using hl)
 rw [this, List.nil_append, List.filter_eq_self.mpr fun _ _ => rfl]
noncomputable def iL (ns : List Int) : List D := ns.map .int
noncomputable def nL (ns : List Nat) : List D := ns.map fun (n : Nat) => D.int n
noncomputable def isW : D → Bool
 | .int _ => true
 | _ => false
noncomputable def By : D → Bool
 | .range .. => false
 | .exc _ => false
 | .glob _ => false
 | .dict .. => false
 | .obj .. => false
 | _ => true
theorem Cq (ns : List Int) : Up (iL ns) = some ns := by
 induction ns with
 | nil => rfl
 | cons n ns ih => exact congrArg (Option.map (n :: ·)) ih
theorem DV (bs : List Bool) : W0 (bs.map .bool) = some bs := by
 induction bs with
 | nil => rfl
 | cons b bs ih => exact congrArg (Option.map (b :: ·)) ih
theorem BA {d : D} {ds : List D} {p : PyData} {ps : List PyData} (h1 : Wy d = some p) (h2 : YM ds = some ps) : YM (d :: ds) = some (p :: ps) := by
 conv => lhs; whnf
 rw [h1, h2]
theorem WU (ns : List Int) : YM (iL ns) = some (ns.map .int) := by
 induction ns with
 | nil => rfl
 | cons n ns ih => exact BA rfl ih
theorem Hs {ds : List D} {ps : List PyData} (h : YM ds = some ps) : Wy (.tup ds) = some (.tuple ps) := congrArg (Option.map PyData.tuple) h
theorem Ds {ds : List D} {ps : List PyData} (h : YM ds = some ps) : Wy (.list ds) = some (.list ps) := congrArg (Option.map PyData.list) h
theorem WV (a : List Int) : ∀ b : List Int, PyData.eqvAll (a.map .int) (b.map .int) = decide (a = b) := by
 induction a with
 | nil =>
  intro b
  cases b with
  | nil => rfl
  | cons y b => rfl
 | cons x a ih =>
  intro b
  cases b with
  | nil => rfl
  | cons y b =>
   show ((x == y) && PyData.eqvAll (a.map .int) (b.map .int)) = _
   rw [ih]
   by_cases h : x = y
   ·subst h
    by_cases h2 : a = b
    ·subst h2; rw [decide_eq_true rfl, decide_eq_true rfl, Bool.and_true]; exact beq_self_eq_true x
    ·rw [decide_eq_false h2, decide_eq_false (fun q => h2 (List.cons.inj q).2), Bool.and_false]
   ·rw [decide_eq_false (fun q => h (List.cons.inj q).1), beq_eq_false_iff_ne.mpr h, Bool.false_and]
theorem Vm (a : List Int) : PyData.canLayAll0 (a.map .int) = true := by
 induction a with
 | nil => rfl
 | cons x a ih => exact ih
theorem KJ (a : List Int) : PyData.depthAll (a.map .int) ≤ 1 := by
 induction a with
 | nil => exact Nat.zero_le _
 | cons x a ih => exact Nat.max_le.mpr ⟨Nat.zero_le _, ih⟩
theorem Vh (a : List Int) : SeqAt.shaped (.list (a.map .int)) = true :=
 Bool.and_eq_true_iff.mpr ⟨Vm a, decide_eq_true (Nat.le_trans (Nat.add_le_add_right (KJ a) 1) (by decide))⟩
theorem Kx (a : List Int) : SeqAt.shaped (.tuple (a.map .int)) = true :=
 Bool.and_eq_true_iff.mpr ⟨Vm a, decide_eq_true (Nat.le_trans (Nat.add_le_add_right (KJ a) 1) (by decide))⟩
noncomputable def eqB (a b : List Int) : Bool := decide (a = b)
theorem UX {a b : List Int} : eqB a b = true ↔ a = b := decide_eq_true_iff
theorem Kd {a b : List Int} : eqB a b = false ↔ a ≠ b := decide_eq_false_iff_not
noncomputable def eqZ (a b : Int) : Bool := decide (a = b)
theorem VQ {a b : Int} : eqZ a b = true ↔ a = b := decide_eq_true_iff
theorem OD {a b : Int} : eqZ a b = false ↔ a ≠ b := decide_eq_false_iff_not
theorem BM {x y : D} {p q : PyData} {b : Bool} (h1 : Wy x = some p) (h2 : Wy y = some q) (h3 : SeqAt.shaped p = true) (h4 : SeqAt.shaped q = true) (h5 : PyData.eqv p q = b) : eqD x y = some b := by
 conv => lhs; whnf
 rw [h1, h2]
 conv => lhs; whnf
 rw [h3, h4, ← h5]; rfl
theorem Dg {x y : D} {b : Bool} (h : eqD x y = some b) : eqI x y = some (.sh (.bool b)) := congrArg (Option.map fun b => T.sh (.bool b)) h
theorem ON {x y : D} {b : Bool} (h : eqD x y = some b) : neI x y = some (.sh (.bool !b)) := congrArg (Option.map fun b => T.sh (.bool !b)) h
theorem Kc (a b : List Int) : eqD (.list (iL a)) (.list (iL b)) = some (eqB a b) := BM (Ds (WU a)) (Ds (WU b)) (Vh a) (Vh b) (WV a b)
theorem DZ (a b : List Int) : eqD (.tup (iL a)) (.tup (iL b)) = some (eqB a b) := BM (Hs (WU a)) (Hs (WU b)) (Kx a) (Kx b) (WV a b)
theorem Oq (a b : List Int) : eqI (.list (iL a)) (.list (iL b)) = some (.sh (.bool (eqB a b))) := Dg (Kc a b)
theorem IH (a b : List Int) : eqI (.tup (iL a)) (.tup (iL b)) = some (.sh (.bool (eqB a b))) := Dg (DZ a b)
theorem Iu (a b : List Int) : neI (.tup (iL a)) (.tup (iL b)) = some (.sh (.bool !(eqB a b))) := ON (DZ a b)
theorem IJ (a b : Int) : (a == b) = eqZ a b := by
 by_cases h : a = b
 ·rw [VQ.mpr h]; exact beq_iff_eq.mpr h
 ·rw [OD.mpr h]; exact beq_eq_false_iff_ne.mpr h
theorem FU (a b : Int) : eqD (.int a) (.int b) = some (eqZ a b) := BM rfl rfl rfl rfl (IJ a b)
theorem Fz (a b : Int) : eqI (.int a) (.int b) = some (.sh (.bool (eqZ a b))) := Dg (FU a b)
noncomputable def rng (n : Nat) : List Int := (List.range n).map fun (i : Nat) => (i : Int)
theorem XE (n : Nat) : (rng n).length = n := by simp [rng]
theorem Wk (n : Nat) : Wh 0 n 1 = iL (rng n) := by
 unfold Wh KK iL rng
 rw [rangeSize_one]
 have : (if (0 : Int) < n then (n : Int) - 0 else 0).toNat = n := by split <;> omega
 rw [this]
 simp
theorem JZ (n : Nat) (h : n ≤ 1000000) : Yk 0 n 1 = true := by
 unfold Yk
 rw [small_one (by exact Int.ofNat_nonneg _) (by exact Int.ofNat_nonneg _) (by exact Int.ofNat_nonneg _) (by exact Int.ofNat_lt.mpr (Nat.lt_of_le_of_lt h (by decide))), rangeSize_one]
 simp only [Bool.true_and, Bool.and_eq_true, decide_eq_true_eq]
 constructor <;> split <;> omega
theorem Fa (ns : List Int) : (WR ns).Perm ns := List.mergeSort_perm ns _
theorem ER (n : Nat) : (rng n).Pairwise (· ≤ ·) := by
 unfold rng
 rw [List.pairwise_map]
 exact (List.pairwise_lt_range (n := n)).imp fun h => by exact Int.ofNat_le.mpr (Nat.le_of_lt h)
theorem Cy {ns : List Int} {n : Nat} : WR ns = rng n ↔ ns.Perm (rng n) := by
 constructor
 ·intro h; rw [← h]; exact (Fa ns).symm
 ·intro h; exact (WG h.symm (ER n)).symm
section
variable {f g : AEnv → Res Fl} {t : AEnv → Res Bool} {e : AEnv → Res T} {ρ ρ₁ : AEnv} {v : T} {C : PySem.Addr} {i : Nat}
end
end Mine
end

section
set_option Elab.async false
set_option maxRecDepth 100000
set_option linter.unusedSimpArgs false
namespace Mine
open PySem
set_option autoImplicit true
set_option relaxedAutoImplicit true
theorem UC {α β : Type} {o : Option α} {k : α → Res β} {a : α} (h : o = some a) : ob o k = k a := by subst h; rfl
theorem FX {α β : Type} {r : Res α} {g : α → AEnv → Res β} {a : α} {ρ : AEnv} (h : r = .ok a ρ) : r.bind g = g a ρ := by subst h; rfl
noncomputable def I5 (r : Res T) : Res Bv := Qc (fun _ => r) []
theorem Md (h : T.val t = d) : I5 (.ok t ρ) = .ok (.val d) ρ := by subst h; rfl
theorem Me : I5 (.exc C ρ) = .exc C ρ := rfl
noncomputable def Lv (F : D → Option T) (r : Res Bv) : Res T := Jq F (fun _ => r) []
theorem Mf (h : Bv.get ρ a = some x) (h2 : F x = some t) : Lv F (.ok a ρ) = .ok t ρ := by conv => lhs; whnf; rw [h]; whnf; rw [h2]
noncomputable def Io (F : D → D → Option T) (a : Bv) (r : Res Bv) : Res T := Qr F (fun ρ => .ok a ρ) (fun _ => r) []
theorem Mg (h : Bv.get ρ a = some x) (h2 : Bv.get ρ b = some y) (h3 : F x y = some t) : Io F a (.ok b ρ) = .ok t ρ := by conv => lhs; whnf; rw [h, h2]; whnf; rw [h3]
noncomputable def Ln (F : D → D → Option T) (g : AEnv → Res Bv) (r : Res Bv) : Res T := Qr F (fun _ => r) g []
theorem Mh (h : g ρ = r) (h2 : Io F a r = rT) : Ln F g (.ok a ρ) = rT := by subst h; exact h2
noncomputable def Lw (F : List D → Option T) (r : Res (List Bv)) : Res T := Q8 F (fun _ => r) []
theorem Mi (h : Zx ρ bs = some ds) (h2 : F ds = some t) : Lw F (.ok bs ρ) = .ok t ρ := by conv => lhs; whnf; rw [h]; whnf; rw [h2]
noncomputable def H7 (F : List D → FOut) (r : Res (List Bv)) : Res T := QA F (fun _ => r) []
theorem Mj {o : FOut} (h : Zx ρ bs = some ds) (h2 : F ds = o) (h3 : Jj bs ρ o = rT) : H7 F (.ok bs ρ) = rT := by
 subst h2; subst h3; conv => lhs; whnf; rw [h]
theorem Mk : H7 F (.exc C ρ) = .exc C ρ := rfl
noncomputable def Dd (b : Bv) (r : Res (List Bv)) : Res (List Bv) := Qb (fun ρ => .ok b ρ) (fun _ => r) []
theorem Ml : Dd b (.ok bs ρ) = .ok (b :: bs) ρ := rfl
noncomputable def EY (g : AEnv → Res (List Bv)) (r : Res Bv) : Res (List Bv) := Qb (fun _ => r) g []
theorem Mm (h : g ρ = rL) (h2 : Dd b rL = rL') : EY g (.ok b ρ) = rL' := by subst h; exact h2
theorem Mn : EY g (.exc C ρ) = .exc C ρ := rfl
noncomputable def IQ (d : D) (r : Res (List D)) : Res (List D) := Qw (fun ρ => .ok (.sh d) ρ) (fun _ => r) []
theorem Mo : IQ d (.ok ds ρ) = .ok (d :: ds) ρ := rfl
noncomputable def IV (g : AEnv → Res (List D)) (r : Res T) : Res (List D) := Qw (fun _ => r) g []
theorem Mp (h : T.val t = d) (h1 : g ρ = rD) (h2 : IQ d rD = rD') : IV g (.ok t ρ) = rD' := by subst h; subst h1; exact h2
noncomputable def LC (r : Res (List D)) : Res T := YK (fun _ => r) []
theorem Mq (h : List.length ds ≤ 1000000) : LC (.ok ds ρ) = .ok (.sh (.tup ds)) ρ := if_pos h
noncomputable def Ls (r : Res (List D)) : Res T := ZA (fun _ => r) []
theorem Mr (h : List.length ds ≤ 1000000) : Ls (.ok ds ρ) = .ok (.ow true (.list ds)) ρ := if_pos h
noncomputable def Hd (r : Res Bv) : Res Bool := XU (fun _ => r) []
theorem Ms (h : Bv.get ρ a = some (.bool c)) : Hd (.ok a ρ) = .ok c ρ := by
 conv => lhs; whnf; rw [h]
 rfl
noncomputable def Lf (r : Res Bool) : Res Bool := Y6 (fun _ => r) []
theorem Mt : Lf (.ok true ρ) = .ok false ρ := rfl
theorem Mu : Lf (.ok false ρ) = .ok true ρ := rfl
noncomputable def Lc (g : AEnv → Res Bool) (r : Res Bool) : Res Bool := CZ (fun _ => r) g []
theorem Mv (h : g ρ = rB) : Lc g (.ok true ρ) = rB := h
theorem Mw : Lc g (.ok false ρ) = .ok false ρ := rfl
noncomputable def orK (g : AEnv → Res Bool) (r : Res Bool) : Res Bool := eOr (fun _ => r) g []
theorem Mx : orK g (.ok true ρ) = .ok true ρ := rfl
theorem My (h : g ρ = rB) : orK g (.ok false ρ) = rB := h
noncomputable def Dr (F : D → D → Option T) (a : Bv) (r : Res Bv) : Res Bool := Xl F (fun ρ => .ok a ρ) (fun _ => r) []
theorem Mz (h : Bv.get ρ a = some x) (h2 : Bv.get ρ b = some y) (h3 : F x y = some (.sh (.bool c))) : Dr F a (.ok b ρ) = .ok c ρ := (UC h).trans ((UC h2).trans (UC h3))
noncomputable def Hv (F : D → D → Option T) (g : AEnv → Res Bv) (r : Res Bv) : Res Bool := Xl F (fun _ => r) g []
theorem MA (h : g ρ = r) (h2 : Dr F a r = rB) : Hv F g (.ok a ρ) = rB := by subst h; exact h2
noncomputable def Fb (F' : D → D → Option T) (b : Bv) (r : Res Bv) : Res Bool := Dr F' b r
theorem MB (h : Bv.get ρ b = some y) (h2 : Bv.get ρ a = some z) (h3 : F' y z = some (.sh (.bool c))) : Fb F' b (.ok a ρ) = .ok c ρ := Mz h h2 h3
noncomputable def E3 (F' : D → D → Option T) (h : AEnv → Res Bv) (b : Bv) (ρ : AEnv) (c : Bool) : Res Bool := cond c (Fb F' b (h ρ)) (.ok false ρ)
theorem MC (h1 : h ρ = r) (h2 : Fb F' b r = rB) : E3 F' h b ρ true = rB := by subst h1; exact h2
theorem MD : E3 F' h b ρ false = .ok false ρ := rfl
noncomputable def GY (F F' : D → D → Option T) (h : AEnv → Res Bv) (a : Bv) (r : Res Bv) : Res Bool := JS F F' (fun ρ => .ok a ρ) (fun _ => r) h []
theorem ME (h1 : Bv.get ρ a = some x) (h2 : Bv.get ρ b = some y) (h3 : F x y = some (.sh (.bool c))) (h4 : E3 F' h b ρ c = rB) : GY F F' h a (.ok b ρ) = rB := by
 subst h4
 conv => lhs; whnf; rw [h1, h2]; whnf; rw [h3]
 cases c <;> rfl
noncomputable def Hz (F F' : D → D → Option T) (g h : AEnv → Res Bv) (r : Res Bv) : Res Bool := JS F F' (fun _ => r) g h []
theorem MF (h1 : g ρ = r) (h2 : GY F F' h a r = rB) : Hz F F' g h (.ok a ρ) = rB := by subst h1; exact h2
noncomputable def boL (g : AEnv → Res T) (ρ : AEnv) (op : BoolOp) (c : Bool) : Res T := eBo op (fun _ => .ok (.val (.bool c)) ρ) g []
theorem MG (h : g ρ = rT) : boL g ρ .And true = rT := h
theorem MH : boL g ρ .And false = .ok (.sh (.bool false)) ρ := rfl
noncomputable def boK (op : BoolOp) (g : AEnv → Res T) (r : Res Bv) : Res T := eBo op (fun _ => r) g []
theorem MI (h : Bv.get ρ a = some (.bool c)) (h2 : boL g ρ op c = rT) : boK op g (.ok a ρ) = rT := by
 subst h2; conv => lhs; whnf; rw [h]
 rfl
noncomputable def EW (r : Res T) : Res (List D) := Xu (fun _ => r) []
theorem MJ (h : T.val t = d) (h2 : X0 d = some ds) : EW (.ok t ρ) = .ok ds ρ := by subst h; conv => lhs; whnf; rw [h2]
theorem MK : EW (.exc C ρ) = .exc C ρ := rfl
noncomputable def IS (r : Res T) : Res (List D) := Ve (fun _ => r) []
theorem ML (h : T.val t = .list ds) : IS (.ok t ρ) = .ok (JW ds) ρ := by conv => lhs; whnf; rw [h]
noncomputable def Ii (g : AEnv → Res Fl) (r : Res Fl) : Res Fl := Qo (fun _ => r) g []
theorem MM (h : g ρ = s) : Ii g (.ok .next ρ) = s := h
theorem MN : Ii g (.ok (.ret t) ρ) = .ok (.ret t) ρ := rfl
theorem MO : Ii g (.exc C ρ) = .exc C ρ := rfl
noncomputable def ifK (f g : AEnv → Res Fl) (r : Res Bool) : Res Fl := sIf (fun _ => r) f g []
theorem MP (h : p ρ = s) : ifK p q (.ok true ρ) = s := h
theorem MQ (h : q ρ = s) : ifK p q (.ok false ρ) = s := h
noncomputable def La (r : Res T) : Res Fl := XS (fun _ => r) []
theorem MR : La (.ok t ρ) = .ok (.ret t) ρ := rfl
theorem MS : La (.exc C ρ) = .exc C ρ := rfl
noncomputable def HW (r : Res Bv) : Res Fl := XF (fun _ => r) []
theorem MT : HW (.ok a ρ) = .ok .next ρ := rfl
theorem MU : HW (.exc C ρ) = .exc C ρ := rfl
noncomputable def LJ (i : Nat) (r : Res T) : Res Fl := Qx i (fun _ => r) []
theorem MV (h : List.set ρ i (some t) = ρ') : LJ i (.ok t ρ) = .ok .next ρ' := by subst h; rfl
noncomputable def IX (b : D → AEnv → Option AEnv) (body : AEnv → Res Fl) (r : Res (List D)) : Res Fl := YA (fun _ => r) b body []
theorem MW (h : Xs b body ds ρ = s) : IX b body (.ok ds ρ) = s := h
theorem MX : IX b body (.exc C ρ) = .exc C ρ := rfl
noncomputable def I3 (K : W.Frag) (C' : Addr) (i : Nat) (g : AEnv → Res Fl) (r : Res Fl) : Res Fl := F8 K C' i (fun _ => r) g []
theorem MY (h : (W.mroIn K C (.ref C') == some true) = true) (h2 : List.set ρ i (some (.sh (.exc C))) = ρ₁) (h3 : g ρ₁ = .ok fl ρ₂) (h4 : List.set ρ₂ i none = ρ₃) : I3 K C' i g (.exc C ρ) = .ok fl ρ₃ := by
 subst h2; subst h4
 have e : I3 K C' i g (.exc C ρ) = if (W.mroIn K C (.ref C') == some true) = true then (match g (ρ.set i (some (.sh (.exc C)))) with | .ok fl ρ₂ => .ok fl (ρ₂.set i none) | _ => .stuck) else .stuck := rfl
 rw [e, if_pos h, h3]
noncomputable def Ib (b : D → AEnv → Option AEnv) (body : AEnv → Res Fl) (ds : List D) (r : Res Fl) : Res Fl := r.bind fun fl ρ₂ => match fl with
 | .next => Xs b body ds ρ₂
 | .cont => Xs b body ds ρ₂
 | .brk => .ok .next ρ₂
 | .ret t => .ok (.ret t) ρ₂
theorem MZ (h : Xs b body ds ρ = s) : Ib b body ds (.ok .next ρ) = s := h
theorem M0 : Ib b body ds (.ok (.ret t) ρ) = .ok (.ret t) ρ := rfl
theorem M1 : Ib b body ds (.exc C ρ) = .exc C ρ := rfl
section
variable {ρ ρ₁ ρ₂ ρ₃ ρ' : AEnv} {d x y : D} {m : Bool} {i n : Nat} {t t' : T} {b : Bv} {bs : List Bv} {ds ds' : List D} {u : Option T} {l l' : AEnv}
theorem QO : (T.sh d).val = d := rfl
theorem Zl : (T.ow m d).val = d := rfl
theorem K7 : (T.sh d).weak = .sh d := rfl
theorem I6 : (T.ow m d).weak = .ow false d := rfl
theorem Wl {u0 u1 : Option T} : List.set (u0 :: u1 :: l) 1 v = u0 :: v :: l := rfl
theorem Zb {u0 u1 u2 : Option T} : List.set (u0 :: u1 :: u2 :: l) 2 v = u0 :: u1 :: v :: l := rfl
theorem Yw {u0 u1 u2 u3 : Option T} : List.set (u0 :: u1 :: u2 :: u3 :: l) 3 v = u0 :: u1 :: u2 :: v :: l := rfl
theorem Uw {u0 u1 u2 u3 u4 : Option T} : List.set (u0 :: u1 :: u2 :: u3 :: u4 :: l) 4 v = u0 :: u1 :: u2 :: u3 :: v :: l := rfl
theorem Kj {u0 u1 u2 u3 u4 u5 : Option T} : List.set (u0 :: u1 :: u2 :: u3 :: u4 :: u5 :: l) 5 v = u0 :: u1 :: u2 :: u3 :: u4 :: v :: l := rfl
theorem KI {u0 u1 u2 u3 u4 u5 u6 : Option T} : List.set (u0 :: u1 :: u2 :: u3 :: u4 :: u5 :: u6 :: l) 6 v = u0 :: u1 :: u2 :: u3 :: u4 :: u5 :: v :: l := rfl
theorem Vt {u0 u1 u2 u3 u4 u5 u6 u7 : Option T} : List.set (u0 :: u1 :: u2 :: u3 :: u4 :: u5 :: u6 :: u7 :: l) 7 v = u0 :: u1 :: u2 :: u3 :: u4 :: u5 :: u6 :: v :: l := rfl
theorem De {u0 u1 u2 u3 u4 u5 u6 u7 u8 : Option T} : List.set (u0 :: u1 :: u2 :: u3 :: u4 :: u5 :: u6 :: u7 :: u8 :: l) 8 v = u0 :: u1 :: u2 :: u3 :: u4 :: u5 :: u6 :: u7 :: v :: l := rfl
theorem LF {u0 u1 u2 u3 u4 u5 u6 u7 u8 u9 : Option T} : List.set (u0 :: u1 :: u2 :: u3 :: u4 :: u5 :: u6 :: u7 :: u8 :: u9 :: l) 9 v = u0 :: u1 :: u2 :: u3 :: u4 :: u5 :: u6 :: u7 :: u8 :: v :: l := rfl
theorem IR {u0 u1 u2 u3 u4 u5 u6 u7 u8 u9 u10 : Option T} : List.set (u0 :: u1 :: u2 :: u3 :: u4 :: u5 :: u6 :: u7 :: u8 :: u9 :: u10 :: l) 10 v = u0 :: u1 :: u2 :: u3 :: u4 :: u5 :: u6 :: u7 :: u8 :: u9 :: v :: l := rfl
theorem KZ {u0 u1 u2 u3 u4 u5 u6 u7 u8 u9 u10 u11 : Option T} : List.set (u0 :: u1 :: u2 :: u3 :: u4 :: u5 :: u6 :: u7 :: u8 :: u9 :: u10 :: u11 :: l) 11 v = u0 :: u1 :: u2 :: u3 :: u4 :: u5 :: u6 :: u7 :: u8 :: u9 :: u10 :: v :: l := rfl
theorem Lz {u0 u1 u2 u3 u4 u5 u6 u7 u8 u9 u10 u11 u12 : Option T} : List.set (u0 :: u1 :: u2 :: u3 :: u4 :: u5 :: u6 :: u7 :: u8 :: u9 :: u10 :: u11 :: u12 :: l) 12 v = u0 :: u1 :: u2 :: u3 :: u4 :: u5 :: u6 :: u7 :: u8 :: u9 :: u10 :: u11 :: v :: l := rfl
theorem VU {u0 u1 u2 u3 u4 u5 u6 u7 u8 u9 u10 u11 u12 u13 : Option T} : List.set (u0 :: u1 :: u2 :: u3 :: u4 :: u5 :: u6 :: u7 :: u8 :: u9 :: u10 :: u11 :: u12 :: u13 :: l) 13 v = u0 :: u1 :: u2 :: u3 :: u4 :: u5 :: u6 :: u7 :: u8 :: u9 :: u10 :: u11 :: u12 :: v :: l := rfl
theorem BO {u0 u1 u2 u3 u4 u5 u6 u7 u8 u9 u10 u11 u12 u13 u14 : Option T} : List.set (u0 :: u1 :: u2 :: u3 :: u4 :: u5 :: u6 :: u7 :: u8 :: u9 :: u10 :: u11 :: u12 :: u13 :: u14 :: l) 14 v = u0 :: u1 :: u2 :: u3 :: u4 :: u5 :: u6 :: u7 :: u8 :: u9 :: u10 :: u11 :: u12 :: u13 :: v :: l := rfl
theorem Be {u0 u1 u2 u3 u4 u5 u6 u7 u8 u9 u10 u11 u12 u13 u14 u15 : Option T} : List.set (u0 :: u1 :: u2 :: u3 :: u4 :: u5 :: u6 :: u7 :: u8 :: u9 :: u10 :: u11 :: u12 :: u13 :: u14 :: u15 :: l) 15 v = u0 :: u1 :: u2 :: u3 :: u4 :: u5 :: u6 :: u7 :: u8 :: u9 :: u10 :: u11 :: u12 :: u13 :: u14 :: v :: l := rfl
theorem QH : Bv.get ρ (.val d) = some d := rfl
theorem X3 : (T.sh d).get = some d := rfl
theorem Lu : (T.ow m (.list ds)).get = some (.list ds) := rfl
theorem IT (h : ρ[i]? = some (some t)) (h2 : t.get = some d) : Bv.get ρ (.var i) = some d := by
 conv => lhs; whnf; rw [h]
 exact h2
theorem Qt : Zx ρ [] = some [] := rfl
theorem Qp (h : b.get ρ = some d) (h2 : Zx ρ bs = some ds) : Zx ρ (b :: bs) = some (d :: ds) := by conv => lhs; whnf; rw [h, h2]
theorem Zz : Wd ρ [] = some [] := rfl
theorem X8 {r : List (Option Nat)} (h : Wd ρ r = some l) : Wd ρ (none :: r) = some (none :: l) := congrArg (Option.map (none :: ·)) h
theorem ZM {r : List (Option Nat)} (h : ρ[i]? = some (some t)) (h2 : t.weak = t') (h3 : Wd ρ r = some l) : Wd ρ (some i :: r) = some (some t' :: l) := by subst h2; conv => lhs; whnf; rw [h]; whnf; rw [h3]
theorem Yz (h : ρ[i]? = some (some (.ow true (.list ds)))) (hl : ds.length ≤ 1000000) : XK ρ i = some ds := by
 conv => lhs; whnf; rw [h]
 exact if_pos hl
theorem Q6 (h : bs.all (ZK ρ) = true) : Jj bs ρ (.ok t) = .ok t ρ := if_pos h
theorem Zp (h : bs.all (ZK ρ) = false) (h2 : t.val = d) (h3 : Qg d = true) : Jj bs ρ (.ok t) = .ok (.sh d) ρ := by subst h2; exact (if_neg (by rw [h]; decide)).trans (if_pos h3)
theorem Us {C : Addr} : Jj bs ρ (.exc C) = .exc C ρ := rfl
end
section
variable {ρ ρ₁ ρ₂ ρ₃ ρ' : AEnv} {d x y z : D} {i : Nat} {t : T} {a b : Bv} {bs : List Bv} {ds ds' : List D} {C : Addr} {c : Bool}
variable {f g h : AEnv → Res Bv} {fT gT : AEnv → Res T} {fa : AEnv → Res (List Bv)} {fd : AEnv → Res (List D)} {tb tc : AEnv → Res Bool} {r : Res Bv} {rT : Res T} {rB rB' : Res Bool} {rL rL' : Res (List Bv)} {rD rD' : Res (List D)}
theorem QL : Qd d ρ = .ok (.sh d) ρ := rfl
theorem Xf (h : ρ[i]? = some (some t)) : eOp i ρ = .ok (.var i) ρ := by conv => lhs; whnf; rw [h]
theorem QN (h : ρ[i]? = some (some (.sh d))) : Xe i ρ = .ok (.sh d) ρ := by conv => lhs; whnf; rw [h]
theorem JT (h : ρ[i]? = some (some (.ow true (.list ds)))) (h2 : List.set ρ i (some (.sh (.list ds))) = ρ') : Xe i ρ = .ok (.sh (.list ds)) ρ' := by subst h2; conv => lhs; whnf; rw [h]
theorem Qu (h1 : fT ρ = rT) (h2 : I5 rT = r) : Qc fT ρ = r := by subst h1; exact h2
theorem Z1 {F : D → Option T} (h1 : f ρ = r) (h2 : Lv F r = rT) : Jq F f ρ = rT := by subst h1; exact h2
theorem XG {F : D → D → Option T} (h1 : f ρ = r) (h2 : Ln F g r = rT) : Qr F f g ρ = rT := by subst h1; exact h2
theorem QK {F : List D → Option T} (h1 : fa ρ = rL) (h2 : Lw F rL = rT) : Q8 F fa ρ = rT := by subst h1; exact h2
theorem QC {F : List D → FOut} (h1 : fa ρ = rL) (h2 : H7 F rL = rT) : QA F fa ρ = rT := by subst h1; exact h2
theorem QX : Qj ρ = .ok [] ρ := rfl
theorem QB (h1 : f ρ = r) (h2 : EY fa r = rL) : Qb f fa ρ = rL := by subst h1; exact h2
theorem QY : Xv ρ = .ok [] ρ := rfl
theorem QV (h1 : fT ρ = rT) (h2 : IV fd rT = rD) : Qw fT fd ρ = rD := by subst h1; exact h2
theorem ZN (h1 : fd ρ = rD) (h2 : LC rD = rT) : YK fd ρ = rT := by subst h1; exact h2
theorem XJ (h1 : fd ρ = rD) (h2 : Ls rD = rT) : ZA fd ρ = rT := by subst h1; exact h2
theorem QP (h1 : f ρ = r) (h2 : Hd r = rB) : XU f ρ = rB := by subst h1; exact h2
theorem Xp (h1 : tb ρ = rB) (h2 : Lf rB = rB') : Y6 tb ρ = rB' := by subst h1; exact h2
theorem Co : KY ρ = .ok true ρ := rfl
theorem Xi : Z3 ρ = .ok false ρ := rfl
theorem HE (h1 : tb ρ = rB) (h2 : Lc tc rB = rB') : CZ tb tc ρ = rB' := by subst h1; exact h2
theorem XR (h1 : tb ρ = rB) (h2 : orK tc rB = rB') : eOr tb tc ρ = rB' := by subst h1; exact h2
theorem QT {F : D → D → Option T} (h1 : f ρ = r) (h2 : Hv F g r = rB) : Xl F f g ρ = rB := by subst h1; exact h2
theorem ZB {F F' : D → D → Option T} (h1 : f ρ = r) (h2 : Hz F F' g h r = rB) : JS F F' f g h ρ = rB := by subst h1; exact h2
theorem Xk : Qc (Qd d) ρ = .ok (.val d) ρ := rfl
theorem JB (h : fa ρ = rL) (h2 : Dd (.val d) rL = rL') : Qb (Qc (Qd d)) fa ρ = rL' := by subst h; exact h2
theorem Q5 : Qb (Qc (Qd d)) Qj ρ = .ok [.val d] ρ := rfl
theorem QE (h0 : ρ[i]? = some (some t)) (h : fa ρ = rL) (h2 : Dd (.var i) rL = rL') : Qb (eOp i) fa ρ = rL' := QB (Xf h0) (Mm h h2)
theorem Qn (h0 : ρ[i]? = some (some t)) : Qb (eOp i) Qj ρ = .ok [.var i] ρ := QB (Xf h0) rfl
theorem Uf {F : D → D → Option T} (h1 : g ρ = r) (h2 : Io F (.val d) r = rT) : Qr F (Qc (Qd d)) g ρ = rT := by subst h1; exact h2
theorem ZH {F : D → D → Option T} (h0 : ρ[i]? = some (some t)) (h1 : g ρ = r) (h2 : Io F (.var i) r = rT) : Qr F (eOp i) g ρ = rT := XG (Xf h0) (Mh h1 h2)
theorem XD {F : D → D → Option T} {t' : T} (h0 : ρ[i]? = some (some t)) (h1 : t.get = some x) (h : F x d = some t') : Qr F (eOp i) (Qc (Qd d)) ρ = .ok t' ρ := XG (Xf h0) (Mh Xk (Mg (IT h0 h1) rfl h))
theorem Zn {F : D → D → Option T} (h0 : ρ[i]? = some (some t)) (h1 : g ρ = r) (h2 : Dr F (.var i) r = rB) : Xl F (eOp i) g ρ = rB := QT (Xf h0) (MA h1 h2)
theorem Yn {F : D → D → Option T} (h0 : ρ[i]? = some (some t)) (h1 : t.get = some x) (h : F x d = some (.sh (.bool c))) : Xl F (eOp i) (Qc (Qd d)) ρ = .ok c ρ := QT (Xf h0) (MA Xk (Mz (IT h0 h1) rfl h))
theorem KW {op : BoolOp} (h1 : f ρ = r) (h2 : boK op gT r = rT) : eBo op f gT ρ = rT := by subst h1; exact h2
theorem Zo : Zt ρ = .ok none ρ := rfl
theorem Yu {j : Int} (h1 : f ρ = .ok a ρ₁) (h2 : a.get ρ₁ = some (.int j)) : Jf f ρ = .ok (some j) ρ₁ := (FX h1).trans (UC (o := (a.get ρ₁).bind asI) (by rw [h2]; rfl))
theorem ZL {p q : AEnv → Res (Option Int)} {lo hi : Option Int} (h1 : f ρ = .ok a ρ₁) (h2 : p ρ₁ = .ok lo ρ₂) (h3 : q ρ₂ = .ok hi ρ₃) (h4 : a.get ρ₃ = some x) (h5 : YB x lo hi = some t) : ZQ f p q ρ = .ok t ρ₃ := by conv => lhs; whnf; rw [h1]; whnf; rw [h2]; whnf; rw [h3]; whnf; rw [h4]; whnf; rw [h5]
theorem QG (h1 : fT ρ = rT) (h2 : EW rT = rD) : Xu fT ρ = rD := by subst h1; exact h2
theorem W7 (h1 : fT ρ = rT) (h2 : IS rT = rD) : Ve fT ρ = rD := by subst h1; exact h2
theorem XM {cap : List (Option Nat)} {bd : D → AEnv → Option AEnv} {l ρ₀ : AEnv} {out : List D} (h1 : Wd ρ cap = some l) (h2 : fd ρ = .ok ds ρ₁) (h3 : Wd ρ₁ cap = some ρ₀) (h4 : Yl bd tb fT ρ₀ ds [] = some out) : Ys cap fd bd tb fT ρ = .ok (.ow true (.list out)) ρ₁ := by conv => lhs; whnf; rw [h1]; whnf; rw [h2]; whnf; rw [h3]; whnf; rw [h4]
theorem Zq (h1 : XK ρ i = some ds) (h2 : fT ρ = .ok t ρ₁) (h3 : XK ρ₁ i = some ds') (h4 : t.val = d) (h5 : List.set ρ₁ i (some (.ow true (.list (ds' ++ [d])))) = ρ') : Za i fT ρ = .ok (.sh .none) ρ' := by subst h4; subst h5; conv => lhs; whnf; rw [h1]; whnf; rw [h2]; whnf; rw [h3]
theorem Ld {j : Int} (h1 : XK ρ i = some ds) (h2 : f ρ = .ok b ρ₁) (h3 : b.get ρ₁ = some (.int j)) (h4 : XK ρ₁ i = some ds') (h5 : 0 ≤ j ∧ j < ds'.length) (h6 : ds'[j.toNat]? = some d) (h7 : List.set ρ₁ i (some (.ow true (.list (ds'.eraseIdx j.toNat)))) = ρ') : GO i f ρ = .ok (.sh d) ρ' := by
 subst h7
 exact (UC h1).trans ((FX h2).trans ((UC (o := (b.get ρ₁).bind asI) (by rw [h3]; rfl)).trans ((UC h4).trans ((if_pos h5).trans (UC h6)))))
variable {sf sg : AEnv → Res Fl} {s s' : Res Fl} {fl : Fl}
theorem Qz : Qy ρ = .ok .next ρ := rfl
theorem J6 (h : ρ[i]? = some (some (.ow true (.list ds)))) : JX i ρ = .ok (.ret (.ow true (.list ds))) ρ := by conv => lhs; whnf; rw [h]
theorem Qq (h1 : sf ρ = s) (h2 : Ii sg s = s') : Qo sf sg ρ = s' := by subst h1; exact h2
theorem Q2 (h1 : tb ρ = rB) (h2 : ifK sf sg rB = s) : sIf tb sf sg ρ = s := by subst h1; exact h2
theorem QS (h1 : fT ρ = rT) (h2 : La rT = s) : XS fT ρ = s := by subst h1; exact h2
theorem Xh (h1 : f ρ = r) (h2 : HW r = s) : XF f ρ = s := by subst h1; exact h2
theorem Q7 (h1 : fT ρ = rT) (h2 : LJ i rT = s) : Qx i fT ρ = s := by subst h1; exact h2
theorem ZI (h1 : fd ρ = .ok ds ρ₁) (h2 : ds.length ≤ 1000) : Jw C fd ρ = .exc C ρ₁ := by
 conv => lhs; whnf; rw [h1]
 exact if_pos h2
theorem Q9 {b : D → AEnv → Option AEnv} (h1 : fd ρ = rD) (h2 : IX b sf rD = s) : YA fd b sf ρ = s := by subst h1; exact h2
theorem G7 {K : W.Frag} {C' : Addr} (h1 : sf ρ = s) (h2 : I3 K C' i sg s = s') : F8 K C' i sf sg ρ = s' := by subst h1; exact h2
theorem Fo {j : Int} (h1 : fT ρ = .ok t ρ₁) (h2 : XK ρ₁ i = some ds) (h3 : f ρ₁ = .ok b ρ₂) (h4 : b.get ρ₂ = some (.int j)) (h5 : XK ρ₂ i = some ds') (h6 : 0 ≤ j ∧ j < ds'.length) (h7 : t.val = d) (h8 : List.set ρ₂ i (some (.ow true (.list (ds'.set j.toNat d)))) = ρ') : Jd i f fT ρ = .ok .next ρ' := by
 subst h7; subst h8
 conv => lhs; whnf; rw [h1]; whnf; rw [h2]; whnf; rw [h3]; whnf; rw [h4, h5]
 exact if_pos h6
theorem QU {n : Nat} {is : List Nat} {o : FOut} (ρ : AEnv) (hl : ds.length = is.length) (hi : Bq n is ds = ρ) (h : sf ρ = s) (ho : GM s = o) : ZO n is sf ds = o := by subst hi; subst h; subst ho; exact if_pos hl
theorem Q0 : GM (.ok (.ret t) ρ) = .ok t := rfl
theorem U8 : GM (.ok .next ρ) = .ok (.sh .none) := rfl
theorem Z9 : GM (.exc C ρ) = .exc C := rfl
theorem QZ {b : D → AEnv → Option AEnv} (h1 : b d ρ = some ρ₁) (h2 : sf ρ₁ = s) (h3 : Ib b sf ds s = s') : Xs b sf (d :: ds) ρ = s' := by
 subst h2; subst h3; conv => lhs; whnf; rw [h1]
 rfl
theorem Xo (h : List.set ρ i (some (.sh d)) = ρ') : QF i d ρ = some ρ' := congrArg some h
end
theorem XX {α : Type} {n : Nat} : List.length ([] : List α) ≤ n := Nat.zero_le _
theorem Zj {α : Type} {n : Nat} {a : α} {l : List α} (h : l.length ≤ n) : (a :: l).length ≤ n + 1 := Nat.succ_le_succ h
theorem QW {a b : Int} (h : b ≠ 0) : XB (.int a) (.int b) = some (.sh (.int (a.fmod b))) := if_pos h
theorem XW {a b : Int} (h : b ≠ 0 ∧ b.natAbs < 1073741824) : ZC (.int a) (.int b) = some (.sh (.int (a.fdiv b))) := if_pos h
theorem KV {a b : Int} (h : (small a || small b) = true) : WL (.int a) (.int b) = some (.sh (.int (a * b))) := if_pos h
theorem U3 {ds : List D} (h : ds.length ≤ 1000000) : YD [.tup ds] = some (.sh (.int ds.length)) := if_pos h
theorem XA {ds : List D} (h : ds.length ≤ 1000000) : YD [.list ds] = some (.sh (.int ds.length)) := if_pos h
theorem WE {a b : Int} (h : a ≤ b) : leI (.int a) (.int b) = some (.sh (.bool true)) := congrArg (fun b => some (T.sh (.bool b))) (decide_eq_true h)
theorem DS {a b : Int} (h : ¬ a ≤ b) : leI (.int a) (.int b) = some (.sh (.bool false)) := congrArg (fun b => some (T.sh (.bool b))) (decide_eq_false h)
theorem H9 {a b : Int} (h : a < b) : ltI (.int a) (.int b) = some (.sh (.bool true)) := congrArg (fun b => some (T.sh (.bool b))) (decide_eq_true h)
theorem HI {a b : Int} (h : ¬ a < b) : ltI (.int a) (.int b) = some (.sh (.bool false)) := congrArg (fun b => some (T.sh (.bool b))) (decide_eq_false h)
theorem VI (a : Int) : eqI (.int a) (.int a) = some (.sh (.bool true)) := by rw [Fz, VQ.mpr rfl]
theorem VM {a b : Int} (h : a ≠ b) : eqI (.int a) (.int b) = some (.sh (.bool false)) := by rw [Fz, OD.mpr h]
theorem FZ (a b : Int) : neI (.int a) (.int b) = some (.sh (.bool !(eqZ a b))) := ON (FU a b)
theorem LB {a b : Int} (h : a ≠ b) : neI (.int a) (.int b) = some (.sh (.bool true)) := by rw [FZ, OD.mpr h]; rfl
theorem LH (a : Int) : neI (.int a) (.int a) = some (.sh (.bool false)) := by rw [FZ, VQ.mpr rfl]; rfl
theorem DJ {ds : List D} {i : Int} (h0 : 0 ≤ i) (h1 : i < 2 ^ 63) : ES ds i = ds[i.toNat]? := (if_pos h0).trans (if_pos h1)
theorem HK {ds : List D} {i : Int} {d : D} (h0 : 0 ≤ i) (h1 : i < 2 ^ 63) (h : ds[i.toNat]? = some d) : Xn (.tup ds) (.int i) = some (.sh d) := congrArg (Option.map T.sh) ((DJ h0 h1).trans h)
theorem Z2 {ds : List D} {i : Int} {d : D} (h0 : 0 ≤ i) (h1 : i < 2 ^ 63) (h : ds[i.toNat]? = some d) : Xn (.list ds) (.int i) = some (.sh d) := congrArg (Option.map T.sh) ((DJ h0 h1).trans h)
theorem VC {b : D → AEnv → Option AEnv} {sf : AEnv → Res Fl} (P : AEnv → List D → Prop) (hs : ∀ ρ d ds, P ρ (d :: ds) → ∃ ρ₁ ρ₂, b d ρ = some ρ₁ ∧ sf ρ₁ = .ok .next ρ₂ ∧ P ρ₂ ds) : ∀ (ds : List D) (ρ : AEnv), P ρ ds → ∃ ρ', Xs b sf ds ρ = .ok .next ρ' ∧ P ρ' []
 | [], ρ, hp => ⟨ρ, rfl, hp⟩
 | d :: ds, ρ, hp => by
  obtain ⟨ρ₁, ρ₂, h1, h2, h3⟩ := hs ρ d ds hp
  obtain ⟨ρ', h4, h5⟩ := VC P hs ds ρ₂ h3
  exact ⟨ρ', QZ h1 h2 (MZ h4), h5⟩
theorem il0 {x : D} {l : List D} : Xn (.list (x :: l)) (.int 0) = some (.sh x) := Z2 (Int.le_refl _) (by decide) rfl
theorem Y8 {b : Int} (h : b.natAbs < 2 ^ 63) : small b = true := decide_eq_true h
theorem Ho {ds : List D} {p : Nat} (h : p ≤ ds.length) : Oo ds none (some (p : Int)) = ds.take p := by
 unfold Oo
 simp only [Option.elim, List.drop_zero, clipAt_nat, Nat.sub_zero, Nat.min_eq_left h]
theorem Ov {ds : List D} {p : Nat} (h : p ≤ ds.length) : Oo ds (some (p : Int)) none = ds.drop p := by
 unfold Oo
 simp only [Option.elim, clipAt_nat, Nat.min_eq_left h]
 exact List.take_of_length_le (by rw [List.length_drop]; exact Nat.le_refl _)
noncomputable def Lx (P : AEnv → Prop) (R : Res Fl → Prop) : Res Fl → Prop
 | .ok .next ρ => P ρ
 | .ok .cont ρ => P ρ
 | .ok .brk ρ => R (.ok .next ρ)
 | .ok (.ret t) ρ => R (.ok (.ret t) ρ)
 | .exc C ρ => R (.exc C ρ)
 | .stuck => False
theorem DD {t : AEnv → Res Bool} {b : AEnv → Res Fl} (P : Nat → AEnv → Prop) (R : Res Fl → Prop) (hs : ∀ m ρ, P m ρ → (∃ ρ₁, t ρ = .ok false ρ₁ ∧ R (.ok .next ρ₁)) ∨ ∃ ρ₁ r, t ρ = .ok true ρ₁ ∧ b ρ₁ = r ∧ Lx (fun ρ' => ∃ m', m' < m ∧ P m' ρ') R r) : ∀ (n m : Nat) (ρ : AEnv), P m ρ → m < n → ∃ r, BP n t b ρ = r ∧ R r
 | 0, _, _, _, h => absurd h (Nat.not_lt_zero _)
 | n + 1, m, ρ, hp, hm => by
  rcases hs m ρ hp with ⟨ρ₁, h1, h2⟩ | ⟨ρ₁, r, h1, h2, h3⟩
  ·refine ⟨_, ?_, h2⟩
   conv => lhs; whnf; rw [h1]
   rfl
  ·have key : ∀ ρ₂, (∃ m', m' < m ∧ P m' ρ₂) → ∃ r, UJ t b n ρ₂ = r ∧ R r := fun ρ₂ ⟨m', h4, h5⟩ => DD P R hs n m' ρ₂ h5 (by lia)
   have e : BP (n + 1) t b ρ = ((t ρ).bind fun c ρ₁ => if c then (b ρ₁).bind fun fl ρ₂ => (match fl with | .next => UJ t b n ρ₂ | .cont => UJ t b n ρ₂ | .brk => .ok .next ρ₂ | .ret t => .ok (.ret t) ρ₂) else .ok .next ρ₁) := rfl
   rw [e, h1]
   show ∃ r, ((b ρ₁).bind fun fl ρ₂ => (match fl with | .next => UJ t b n ρ₂ | .cont => UJ t b n ρ₂ | .brk => .ok .next ρ₂ | .ret t => .ok (.ret t) ρ₂)) = r ∧ R r
   rw [h2]
   cases r with
   | stuck => exact h3.elim
   | exc C ρ₂ => exact ⟨_, rfl, h3⟩
   | ok fl ρ₂ =>
    cases fl with
    | next => exact key _ h3
    | cont => exact key _ h3
    | brk => exact ⟨_, rfl, h3⟩
    | ret v => exact ⟨_, rfl, h3⟩
theorem E9 {b : D → AEnv → Option AEnv} {sf : AEnv → Res Fl} (P : AEnv → List D → Prop) (R : Res Fl → Prop) (h0 : ∀ ρ, P ρ [] → R (.ok .next ρ)) (hs : ∀ ρ d ds, P ρ (d :: ds) → ∃ ρ₁ r, b d ρ = some ρ₁ ∧ sf ρ₁ = r ∧ Lx (fun ρ' => P ρ' ds) R r) : ∀ (ds : List D) (ρ : AEnv), P ρ ds → ∃ r, Xs b sf ds ρ = r ∧ R r
 | [], ρ, hp => ⟨_, rfl, h0 ρ hp⟩
 | d :: ds, ρ, hp => by
  obtain ⟨ρ₁, r, h1, h2, h3⟩ := hs ρ d ds hp
  have e : Xs b sf (d :: ds) ρ = Ib b sf ds r := QZ h1 h2 rfl
  rw [e]
  cases r with
  | stuck => exact h3.elim
  | exc C ρ₂ => exact ⟨_, rfl, h3⟩
  | ok fl ρ₂ =>
   cases fl with
   | next => exact E9 P R h0 hs ds _ h3
   | cont => exact E9 P R h0 hs ds _ h3
   | brk => exact ⟨_, rfl, h3⟩
   | ret v => exact ⟨_, rfl, h3⟩
theorem FL {a b : Int} (h : b < a) : gtI (.int a) (.int b) = some (.sh (.bool true)) := congrArg (fun b => some (T.sh (.bool b))) (decide_eq_true h)
theorem VN {a b : Int} (h : ¬ b < a) : gtI (.int a) (.int b) = some (.sh (.bool false)) := congrArg (fun b => some (T.sh (.bool b))) (decide_eq_false h)
theorem FO {p : Nat} (h : p ≤ 1000) : (0 : Int) ≤ (p : Int) ∧ (p : Int) < 2 ^ 63 := by lia
theorem Cz {ds : List D} {p : Nat} {d : D} (hp : p ≤ 1000) (h : ds[p]? = some d) : Xn (.list ds) (.int (p : Int)) = some (.sh d) := Z2 (FO hp).1 (FO hp).2 h
theorem Ek {ds : List D} {p : Nat} {d : D} (hp : p ≤ 1000) (h : ds[p]? = some d) : Xn (.tup ds) (.int (p : Int)) = some (.sh d) := HK (FO hp).1 (FO hp).2 h
theorem FR {n : Nat} (h : n ≤ 12) : n ≤ 1000000 := Nat.le_trans h (by decide)
theorem HP {n : Nat} (h : n ≤ 12) : n ≤ 1000 := Nat.le_trans h (by decide)
theorem Wq {xs ys : List D} (h : xs.length + ys.length ≤ 1000000) : Xg (.list xs) (.list ys) = some (.ow true (.list (xs ++ ys))) := if_pos h
theorem IY {xs ys : List D} (h : xs.length + ys.length ≤ 1000000) : Xg (.tup xs) (.tup ys) = some (.sh (.tup (xs ++ ys))) := if_pos h
theorem CO {ds : List D} (h : ds.length ≤ 1000000) : Yv [.tup ds] = some (.ow true (.list ds)) := if_pos h
theorem Ih {ds : List D} (h : ds.length ≤ 1000000) : Yv [.list ds] = some (.ow true (.list ds)) := if_pos h
theorem FS {lo hi st : Int} (h : Yk lo hi st = true) : Yv [.range lo hi st] = some (.ow true (.list (Wh lo hi st))) := if_pos h
theorem G3 {ds : List D} (h : ds.length ≤ 1000000) : YT [.list ds] = some (.sh (.tup ds)) := if_pos h
theorem Hu {lo hi st : Int} (h : Yk lo hi st = true) : YT [.range lo hi st] = some (.sh (.tup (Wh lo hi st))) := if_pos h
theorem DH {lo hi st : Int} (h : Yk lo hi st = true) : X0 (.range lo hi st) = some (Wh lo hi st) := if_pos h
theorem JI {ds : List D} {lo hi : Option Int} (h : ds.length ≤ 1000000) : YB (.list ds) lo hi = some (.ow true (.list (Oo ds lo hi))) := if_pos h
theorem Ej {ds : List D} {lo hi : Option Int} (h : ds.length ≤ 1000000) : YB (.tup ds) lo hi = some (.sh (.tup (Oo ds lo hi))) := if_pos h
theorem EV {x : D} {n : Int} (h : 0 ≤ n ∧ n ≤ 1000000) : WL (.list [x]) (.int n) = some (.ow true (.list (List.replicate n.toNat x))) := if_pos h
theorem IP {ds : List D} {bs : List Bool} (h : W0 ds = some bs) : Gw [.list ds] = some (.sh (.bool (bs.all id))) := congrArg (Option.map fun (bs : List Bool) => T.sh (.bool (bs.all id))) h
theorem F6 {ds : List D} {ns : List Int} (h : Up ds = some ns) (hl : ns.length < 64) : VF [.tup ds] = some (.ow true (.list ((WR ns).map .int))) := (congrArg (fun (o : Option (List Int)) => Option.bind o fun (ns : List Int) => if ns.length < 64 then some (T.ow true (.list ((WR ns).map .int))) else none) h).trans (if_pos hl)
theorem Ge {ds : List D} {d : D} (hl : ds.length ≤ 1000) : Xn (.list (ds ++ [d])) (.int (-1)) = some (.sh d) := by
 have hn : (ds ++ [d]).length = ds.length + 1 := List.length_append
 have e : ES (ds ++ [d]) (-1) = (ds ++ [d])[((-1 : Int) + (ds ++ [d]).length).toNat]? := (if_neg (by decide)).trans (if_pos ⟨by decide, by rw [hn]; simp +arith⟩)
 rw [hn, show ((-1 : Int) + ((ds.length + 1 : Nat) : Int)).toNat = ds.length by simp +arith, List.getElem?_append_right (Nat.le_refl _), Nat.sub_self] at e
 exact congrArg (Option.map T.sh) e
theorem Ia (x y : Str) (hx : PyData.strOk x = true) (hy : PyData.strOk y = true) : eqD (.list [.str y, .str x]) (.list [.str y, .str x]) = some true := by
 have hs : SeqAt.shaped (.list [.str y, .str x]) = true := Bool.and_eq_true_iff.mpr ⟨by show (PyData.strOk y && (PyData.strOk x && true)) = true; rw [hx, hy]; rfl, rfl⟩
 refine BM rfl rfl hs hs ?_
 show ((y == y) && ((x == x) && true)) = true
 rw [beq_self_eq_true, beq_self_eq_true]; rfl
end Mine
end

section
set_option Elab.async false
set_option maxRecDepth 100000
namespace Mine
open PySem
noncomputable def Lp (i : Nat) (F : List D → FOut) (r : Res (List Bv)) : Res T := r.bind fun bs ρ₁ => match Zx ρ₁ (.var i :: bs) with
 | some ds => Jj (.var i :: bs) ρ₁ (F ds)
 | none => .stuck
theorem M2 {i : Nat} {F : List D → FOut} {o : FOut} {ρ : AEnv} {bs : List Bv} {ds : List D} {rT : Res T} (h : Zx ρ (.var i :: bs) = some ds) (h2 : F ds = o) (h3 : Jj (.var i :: bs) ρ o = rT) : Lp i F (.ok bs ρ) = rT := by
 subst h2; subst h3; conv => lhs; whnf; rw [h]
section
variable {ρ ρ₁ ρ₂ ρ' : AEnv} {d y z : D} {i j : Nat} {b c : Bv} {bs : List Bv} {ds es : List D} {C : Addr} {n : Str} {ns : List Str} {kk : List Int} {ks : List (List Int)} {fa : AEnv → Res (List Bv)} {f g : AEnv → Res Bv} {fT gT : AEnv → Res T} {rL : Res (List Bv)} {rT : Res T} {p p' : List (List Int) × List D}
theorem J1 (h : ρ[i]? = some (some (.sh (.obj C ns ds)))) (h2 : VX n ns ds = some d) (h3 : Oh d = true) : Oy C n i ρ = .ok (.sh d) ρ := by
 conv => lhs; whnf; rw [h]
 refine (if_pos rfl).trans ?_
 conv => lhs; rw [h2]
 exact if_pos h3
theorem Uk {F : List D → FOut} (h : ρ[i]? = some (some (.sh (.obj C ns es)))) (hn : ns.contains n = false) (h1 : fa ρ = rL) (h2 : Lp i F rL = rT) : J0 C n i F fa ρ = rT := by
 subst h1; subst h2
 conv => lhs; whnf; rw [h]
 exact if_pos ⟨rfl, fun q => by rw [List.contains_iff_mem.mpr q] at hn; cases hn⟩
theorem IM {I : Addr → List D → IOut} (h1 : fa ρ = .ok bs ρ₁) (h2 : Zx ρ₁ bs = some ds) (h3 : bs.all (ZK ρ₁) = true) (h4 : Vs I ds = .ok es) : Ef C ns I fa ρ = .ok (.sh (.obj C ns es)) ρ₁ := by
 conv => lhs; whnf; rw [h1]; whnf; rw [h2]
 refine (if_pos h3).trans ?_
 conv => lhs; rw [h4]
theorem W9 (h : List.set ρ i (some (.ow true (.dict [] []))) = ρ') : D7 i ρ = .ok .next ρ' := congrArg (Res.ok Fl.next) h
theorem OJ {m : Bool} (h : ρ[i]? = some (some (.ow m (.dict ks ds)))) : JO ρ i = some (ks, ds) := by conv => lhs; whnf; rw [h]
theorem JY (h : ρ[i]? = some (some (.ow true (.dict ks ds)))) (hl : ks.length ≤ 1000000) : YC ρ i = some (ks, ds) := by
 conv => lhs; whnf; rw [h]
 exact if_pos hl
theorem W1 {neg r : Bool} (h1 : f ρ = .ok b ρ₁) (h2 : b.get ρ₁ = some y) (h3 : JO ρ₁ i = some (ks, ds)) (h4 : Z6 y = some kk) (h5 : ((QM kk ks).isSome != neg) = r) : BN neg f i ρ = .ok r ρ₁ := by subst h5; conv => lhs; whnf; rw [h1]; whnf; rw [h2, h3]; whnf; rw [h4]
theorem WZ (h0 : JO ρ i = some p) (h1 : f ρ = .ok b ρ₁) (h2 : b.get ρ₁ = some y) (h3 : JO ρ₁ i = some (ks, ds)) (h4 : Z6 y = some kk) (h5 : QM kk ks = some j) (h6 : ds[j]? = some d) : WQ i f ρ = .ok (.sh d) ρ₁ := by conv => lhs; whnf; rw [h0]; whnf; rw [h1]; whnf; rw [h2, h3]; whnf; rw [h4]; whnf; rw [h5]; whnf; rw [h6]
theorem Dp {t : T} (h0 : gT ρ = .ok t ρ₁) (hv : t.val = d) (h1 : YC ρ₁ i = some p) (h2 : f ρ₁ = .ok b ρ₂) (h3 : b.get ρ₂ = some y) (h4 : YC ρ₂ i = some (ks, ds)) (h5 : Z6 y = some kk) (h6 : List.set ρ₂ i (some (.ow true (.dict (DB kk ks) (Ei kk d ks ds)))) = ρ') : Bf i f gT ρ = .ok .next ρ' := by subst hv; subst h6; conv => lhs; whnf; rw [h0]; whnf; rw [h1]; whnf; rw [h2]; whnf; rw [h3, h4]; whnf; rw [h5]
theorem E8 (h0 : YC ρ i = some p) (h1 : f ρ = .ok b ρ₁) (h2 : g ρ₁ = .ok c ρ₂) (h3 : b.get ρ₂ = some y) (h4 : c.get ρ₂ = some z) (h5 : ZK ρ₂ c = true) (h6 : YC ρ₂ i = some (ks, ds)) (h7 : Z6 y = some kk) (h8 : QM kk ks = none)
  (h9 : List.set ρ₂ i (some (.ow true (.dict (ks ++ [kk]) (ds ++ [z])))) = ρ') : UF i f g ρ = .ok (.sh z) ρ' := by subst h9; conv => lhs; whnf; rw [h0]; whnf; rw [h1]; whnf; rw [h2]; whnf; rw [h3, h4, h5, h6]; whnf; rw [h7]; whnf; rw [h8]
theorem E6 (h0 : YC ρ i = some p) (h1 : f ρ = .ok b ρ₁) (h2 : g ρ₁ = .ok c ρ₂) (h3 : b.get ρ₂ = some y) (h4 : c.get ρ₂ = some z) (h5 : ZK ρ₂ c = true) (h6 : YC ρ₂ i = some (ks, ds)) (h7 : Z6 y = some kk) (h8 : QM kk ks = some j) (h9 : ds[j]? = some d) : UF i f g ρ = .ok (.sh d) ρ₂ := by conv => lhs; whnf; rw [h0]; whnf; rw [h1]; whnf; rw [h2]; whnf; rw [h3, h4, h5, h6]; whnf; rw [h7]; whnf; rw [h8]; whnf; rw [h9]
theorem DI {F : List D → Option T} {t : T} (h1 : f ρ = .ok b ρ₁) (h2 : b.get ρ₁ = some (.list ds)) (hb : ds.all Fs = false) (h3 : fa ρ₁ = .ok bs ρ₂) (h4 : Zx ρ₂ (b :: bs) = some es) (h5 : F es = some t) : CL F f fa ρ = .ok t ρ₂ := by
 conv => lhs; whnf; rw [h1]; whnf; rw [h2]
 refine (if_neg (by rw [hb]; decide)).trans ?_
 conv => lhs; rw [h3]; whnf; rw [h4]; whnf; rw [h5]
theorem Fq {v : Int} : Oh (.int v) = true := rfl
theorem W4 {ds : List D} : Oh (.list ds) = true := rfl
theorem X1 {i j : Nat} {x y : D} {ρ ρ₁ ρ₂ : AEnv} (h1 : List.set ρ i (some (.sh x)) = ρ₁) (h2 : List.set ρ₁ j (some (.sh y)) = ρ₂) : ZD [i, j] (.tup [x, y]) ρ = some ρ₂ := by
 subst h1 h2; rfl
end
end Mine
end

section
set_option Elab.async false
set_option maxRecDepth 100000
namespace Mine
open PySem
section
variable {ρ ρ₁ ρ' : AEnv} {i : Nat} {ds ds' es : List D} {d : D} {m : Bool} {fT : AEnv → Res T}
theorem Lh (h1 : XK ρ i = some ds) (h2 : fT ρ = .ok (.ow m (.list es)) ρ₁) (h3 : XK ρ₁ i = some ds') (h4 : ds'.length + es.length ≤ 1000000) (h5 : List.set ρ₁ i (some (.ow true (.list (ds' ++ es)))) = ρ') : W3 i fT ρ = .ok (.sh .none) ρ' := by
 subst h5
 conv => lhs; whnf; rw [h1]; whnf; rw [h2]; whnf; rw [h3]
 exact if_pos h4
theorem FM (h1 : XK ρ i = some ds) (h2 : ds.getLast? = some d) (h3 : List.set ρ i (some (.ow true (.list ds.dropLast))) = ρ') : D4 i ρ = .ok (.sh d) ρ' := by
 subst h3
 conv => lhs; whnf; rw [h1]; whnf; rw [h2]
theorem Ff (h1 : XK ρ i = some ds) (h2 : List.set ρ i (some (.ow true (.list ds.reverse))) = ρ') : UV i ρ = .ok (.sh .none) ρ' := by
 subst h2
 conv => lhs; whnf; rw [h1]
end
end Mine
end

section
set_option Elab.async false
set_option maxRecDepth 100000
set_option maxHeartbeats 4000000
namespace Mine
open PySem PyProof.Rows
noncomputable def gd (p : Program) (w : World) (B : Heap) (mg mb : Str → Option Value) (q : Bool) : Gd := ⟨p, w, B, mg, mb, hd.heap_1 w.params, q⟩
noncomputable def VK (K : W.Frag) : AEnv → Res Fl := (Qo (D7 2) (Qo (YA (Ve (Xe 1)) (ZD [3, 4]) (Qo (XF (Qc (UF 2 (eOp 4) (eOp 3)))) Qy)) (Qo (YA (Ve (Xe 0)) (ZD [3, 4]) (Qo (sIf (BN false (eOp 4) 2) (Qo (XS (YK (Qw (Xe 3) (Qw (WQ 2 (eOp 4)) Xv)))) Qy) Qy) Qy)) (Qo (XS (Qd .none)) Qy))))
noncomputable def JJ (K : W.Frag) : List D → FOut := ZO 5 [0, 1] (VK K)
variable {p : Program} {w : World} {B : Heap} {mg mb : Str → Option Value}
theorem F5 (g : Gr (gd p w B mg mb true)) : Zy (gd p w B mg mb true) 1 (.ref 179) (JJ (gd p w B mg mb true).K) :=
 fnI g 179 5 [0, 1] (f := VK (gd p w B mg mb true).K) (Qa (OS g.ok (i := 2)) (Qa (Ju (enu g (nV 1)) (Hf 3 4) (Qa (exM (sdM 2 (nB 4) (nB 3))) Qf)) (Qa (Ju (enu g (nV 0)) (Hf 3 4) (Qa (Xm (V4 (i := 2) (nB 4)) (Qa (Qs (XQ (vC (nV 3) (vC (V9 (i := 2) (nB 4)) Qv)))) Qf) Qf) Qf)) (Qa (Qs Zf) Qf)))) (U0 fun _ _ => by kernel_rfl)
noncomputable def Wi (K : W.Frag) : AEnv → Res Fl := (Qo (YA (Ve (Xe 0)) (ZD [1, 2]) (Qo (sIf (Xl inI (eOp 2) (Qc (ZQ (eOp 0) (Jf (Qc (Qr Xg (eOp 1) (Qc (Qd (.int 1)))))) Zt))) (Qo (XS (YK (Qw (Xe 1) (Qw (CL Ck (eOp 0) (Qb (eOp 2) (Qb (Qc (Qr Xg (eOp 1) (Qc (Qd (.int 1))))) Qj))) Xv)))) Qy) Qy) Qy)) (Qo (XS (Qd .none)) Qy))
noncomputable def Z7 (K : W.Frag) : List D → FOut := ZO 3 [0] (Wi K)
theorem BS (g : Gr (gd p w B mg mb true)) : Zy (gd p w B mg mb true) 1 (.ref 186) (Z7 (gd p w B mg mb true).K) :=
 fnI g 186 3 [0] (f := Wi (gd p w B mg mb true).K) (Qa (Ju (enu g (nV 0)) (Hf 1 2) (Qa (Xm (Jm (nB 2) (Qh.of (Z4 (nB 0) (ZE (Qh.of (Qk (nB 1) (Qh.of Ql) Xc))) Z0)) LN) (Qa (Qs (XQ (vC (nV 1) (vC (Gs F.slot_list_index F.type_list_index IG (nB 0) (aC (nB 2) (aC (Qh.of (Qk (nB 1) (Qh.of Ql) Xc)) Qe))) Qv)))) Qf) Qf) Qf)) (Qa (Qs Zf) Qf)) (Vp fun _ => by kernel_rfl)
noncomputable def Bb (K : W.Frag) : AEnv → Res Fl := (Qo (XS (eBo .And (Qc (Q8 (Q1 K) (Qb (eOp 0) (Qb (Qc (Qd (.glob (.type "int")))) Qj)))) (Jq EP (Qc (Q8 (Q1 K) (Qb (eOp 0) (Qb (Qc (Qd (.glob (.type "bool")))) Qj))))))) Qy)
noncomputable def ZR (K : W.Frag) : List D → FOut := ZO 1 [0] (Bb K)
theorem UI (g : Gr (gd p w B mg mb true)) : Zy (gd p w B mg mb true) 1 (.ref 125) (ZR (gd p w B mg mb true).K) :=
 fnI g 125 1 [0] (f := Bb (gd p w B mg mb true).K) (Qa (Qs (Js (Jy (Qh.of (cB g (.builtin "isinstance") (Xa g.ok) (aC (nB 0) (aC (Qh.of (gB g (.type "int"))) Qe)))) (J5 (XT (Qh.of (cB g (.builtin "isinstance") (Xa g.ok) (aC (nB 0) (aC (Qh.of (gB g (.type "bool"))) Qe)))) HZ))))) Qf) (Vp fun _ => by kernel_rfl)
noncomputable def WK (K : W.Frag) : AEnv → Res Fl := (Qo (sIf (eOr (Y6 (XU (Qc (Q8 (Q1 K) (Qb (eOp 0) (Qb (Qc (Qd (.glob (.type "tuple")))) Qj)))))) (eOr (Y6 (JS leI leI (Qc (Qd (.int 3))) (Qc (Q8 YD (Qb (eOp 0) Qj))) (Qc (Qd (.int 12))))) Z3)) (Qo (XS (Qd (.bool false))) Qy) Qy) (Qo (sIf (Y6 (XU (Qc (Q8 Gw (Qb (Qc (Ys [none, none] (Xu (Xe 0)) (QF 1) Ux (QA (ZR K) (Qb (eOp 1) Qj)))) Qj))))) (Qo (XS (Qd (.bool false))) Qy) Qy) (Qo (XS (Qr eqI (Qc (Q8 VF (Qb (eOp 0) Qj))) (Qc (Q8 Yv (Qb (Qc (Q8 XN (Qb (Qc (Q8 YD (Qb (eOp 0) Qj))) Qj))) Qj))))) Qy)))
noncomputable def Ym (K : W.Frag) : List D → FOut := ZO 1 [0] (WK K)
theorem Gm (g : Gr (gd p w B mg mb true)) : Zy (gd p w B mg mb true) 2 (.ref 137) (Ym (gd p w B mg mb true).K) :=
 fnI g 137 1 [0] (f := WK (gd p w B mg mb true).K) (Qa (Xm (XC (Xj (XI (Y0 (Qh.of (cB g (.builtin "isinstance") (Xa g.ok) (aC (nB 0) (aC (Qh.of (gB g (.type "tuple"))) Qe)))))) (Xj (XI (chT (Qh.of (gI g 3 328)) (Qh.of (cB g (.builtin "len") Zu (aC (nB 0) Qe))) (Qh.of (gI g 12 330)) On On)) Xx))) (Qa (Qs Yj) Qf) Qf) (Qa (Xm (XI (Y0 (Qh.of (cB g (.builtin "all") (Id rfl) (aC (Qh.of (lc [none, none] (Xw (nV 0)) (tgN 1) Y4 (cF g 125 (UI g) (aC (nB 1) Qe)))) Qe))))) (Qa (Qs Yj) Qf) Qf) (Qa (Qs (B6 (Qh.of (cB g (.builtin "sorted") F2 (aC (nB 0) Qe))) (Qh.of (cB g (.type "list") (YR rfl) (aC (Qh.of (cB g (.type "range") Zs (aC (Qh.of (cB g (.builtin "len") Zu (aC (nB 0) Qe))) Qe))) Qe))) Ur)) Qf))) (Vp fun _ => by kernel_rfl)
noncomputable def Zw (K : W.Frag) : AEnv → Res Fl := (Qo (sIf (eOr (Y6 (XU (Qc (QA (Ym K) (Qb (eOp 1) Qj))))) (eOr (Xl neI (Qc (Q8 YD (Qb (eOp 1) Qj))) (Qc (Oy 285 "bells" 0))) Z3)) (Qo (Jw 56 (Qw (Qd (.str "no row of the method's bells")) Xv)) Qy) Qy) Qy)
noncomputable def QI (K : W.Frag) : List D → FOut := ZO 2 [0, 1] (Zw K)
theorem JV (g : Gr (gd p w B mg mb true)) : Zy (gd p w B mg mb true) 3 (.ref 261) (QI (gd p w B mg mb true).K) :=
 fnI g 261 2 [0, 1] (f := Zw (gd p w B mg mb true).K) (Qa (Xm (XC (Xj (XI (Y0 (Qh.of (cF g 137 (Gm g) (aC (nB 1) Qe))))) (Xj (Jm (Qh.of (cB g (.builtin "len") Zu (aC (nB 1) Qe))) (Qh.of (atr g 285 0)) Cw) Xx))) (Qa (CN g 56 F.excBase_ValueError (vC X9 Qv)) Qf) Qf) Qf) (U0 fun _ _ => by kernel_rfl)
noncomputable def Yg (K : W.Frag) : AEnv → Res Fl := (Qo (sIf (eOr (Y6 (XU (Qc (Q8 (Q1 K) (Qb (eOp 1) (Qb (Qc (Qd (.glob (.type "list")))) Qj)))))) (eOr (Xl gtI (Qc (Q8 YD (Qb (eOp 1) Qj))) (Qc (Qd (.int 60)))) Z3)) (Qo (Jw 56 (Qw (Qd (.str "a list of 0 to 60 rows is wanted")) Xv)) Qy) Qy) (Qo (YA (Xu (Xe 1)) (QF 2) (Qo (XF (Qc (J0 285 "need_head" 0 (QI K) (Qb (eOp 2) Qj)))) Qy)) Qy))
noncomputable def XO (K : W.Frag) : List D → FOut := ZO 3 [0, 1] (Yg K)
theorem BU (g : Gr (gd p w B mg mb true)) : Zy (gd p w B mg mb true) 4 (.ref 193) (XO (gd p w B mg mb true).K) :=
 fnI g 193 3 [0, 1] (f := Yg (gd p w B mg mb true).K) (Qa (Xm (XC (Xj (XI (Y0 (Qh.of (cB g (.builtin "isinstance") (Xa g.ok) (aC (nB 1) (aC (Qh.of (gB g (.type "list"))) Qe)))))) (Xj (Jm (Qh.of (cB g (.builtin "len") Zu (aC (nB 1) Qe))) (Qh.of (gI g 60 394)) DG) Xx))) (Qa (CN g 56 F.excBase_ValueError (vC X9 Qv)) Qf) Qf) (Qa (Ju (Xw (nV 1)) (tgN 2) (Qa (exM (YH.of (mtd g 285 261 0 (JV g) (aC (nB 2) Qe)))) Qf)) Qf)) (U0 fun _ _ => by kernel_rfl)
noncomputable def O5 (K : W.Frag) : AEnv → Res Fl := (Qo (Qx 2 (Q8 Yv (Qb (eOp 0) Qj))) (Qo (YA (Xu (Xe 1)) (QF 3) (Qo (Jd 2 (eOp 3) (Qr Xn (eOp 0) (Qc (Qr Xg (eOp 3) (Qc (Qd (.int 1))))))) (Qo (Jd 2 (Qc (Qr Xg (eOp 3) (Qc (Qd (.int 1))))) (Qr Xn (eOp 0) (eOp 3))) Qy))) (Qo (XS (Q8 YT (Qb (eOp 2) Qj))) Qy)))
noncomputable def J7 (K : W.Frag) : List D → FOut := ZO 4 [0, 1] (O5 K)
theorem BE (g : Gr (gd p w B mg mb true)) : Zy (gd p w B mg mb true) 1 (.ref 219) (J7 (gd p w B mg mb true).K) :=
 fnI g 219 4 [0, 1] (f := O5 (gd p w B mg mb true).K) (Qa (asg 2 (cB g (.type "list") (YR rfl) (aC (nB 0) Qe))) (Qa (Ju (Xw (nV 1)) (tgN 3) (Qa (LL 2 (nB 3) (sub (nB 0) (Qh.of (Qk (nB 3) (Qh.of Ql) Xc)))) (Qa (LL 2 (Qh.of (Qk (nB 3) (Qh.of Ql) Xc)) (sub (nB 0) (nB 3))) Qf))) (Qa (Qs (cB g (.type "tuple") (JM rfl) (aC (nB 2) Qe))) Qf))) (U0 fun _ _ => by kernel_rfl)
noncomputable def UL (K : W.Frag) : AEnv → Res Fl := (Qo (XF (Qc (J0 285 "need_head" 0 (QI K) (Qb (eOp 1) Qj)))) (Qo (Qx 2 (ZA (Qw (Xe 1) Xv))) (Qo (YA (Xu (Oy 285 "steps" 0)) (QF 3) (Qo (XF (Qc (Za 2 (QA (J7 K) (Qb (Qc (Qr Xn (eOp 2) (Qc (Jq Jl (Qc (Qd (.int 1))))))) (Qb (eOp 3) Qj)))))) Qy)) (Qo (JX 2) Qy))))
noncomputable def Zk (K : W.Frag) : List D → FOut := ZO 4 [0, 1] (UL K)
theorem Uu (g : Gr (gd p w B mg mb true)) : Zy (gd p w B mg mb true) 4 (.ref 275) (Zk (gd p w B mg mb true).K) :=
 fnI g 275 4 [0, 1] (f := UL (gd p w B mg mb true).K) (Qa (exM (YH.of (mtd g 285 261 0 (JV g) (aC (nB 1) Qe)))) (Qa (asg 2 (Q4 (vC (nV 1) Qv))) (Qa (Ju (Xw (atr g 285 0)) (tgN 3) (Qa (exM (B1 2 (YH.of (cF g 219 (BE g) (aC (Qh.of (sub (nB 2) (Qh.of (XT (Qh.of Ql) JP)))) (aC (nB 3) Qe)))))) Qf)) (Qa (Hj 2) Qf)))) (U0 fun _ _ => by kernel_rfl)
noncomputable def YO (K : W.Frag) : AEnv → Res Fl := (Qo (XF (Qc (QA (XO K) (Qb (eOp 0) (Qb (eOp 1) Qj))))) (Qo (Qx 2 (Ys [none, none, some 0] (Xu (Xe 1)) (QF 1) Ux (J0 285 "lead" 2 (Zk K) (Qb (eOp 1) Qj)))) (Qo (YA (Xu (Q8 XN (Qb (Qc (Q8 YD (Qb (eOp 2) Qj))) Qj))) (QF 3) (Qo (YA (Xu (Q8 XN (Qb (eOp 3) Qj))) (QF 4) (Qo (sIf (Xl YX (Qc (QA (JJ K) (Qb (Qc (Qr Xn (eOp 2) (eOp 4))) (Qb (Qc (Qr Xn (eOp 2) (eOp 3))) Qj)))) (Qc (Qd .none))) (Qo (XS (YK (Qw (Xe 4) (Qw (Xe 3) Xv)))) Qy) Qy) Qy)) (Qo (sIf (Xl YX (Qc (QA (Z7 K) (Qb (Qc (Qr Xn (eOp 2) (eOp 3))) Qj))) (Qc (Qd .none))) (Qo (XS (YK (Qw (Xe 3) (Qw (Xe 3) Xv)))) Qy) Qy) Qy))) (Qo (XS (Qd .none)) Qy))))
noncomputable def Xy (K : W.Frag) : List D → FOut := ZO 5 [0, 1] (YO K)
theorem Jo (g : Gr (gd p w B mg mb true)) : Zy (gd p w B mg mb true) 5 (.ref 198) (Xy (gd p w B mg mb true).K) :=
 fnI g 198 5 [0, 1] (f := YO (gd p w B mg mb true).K) (Qa (UW (Qh.of (cF g 193 (BU g) (aC (nB 0) (aC (nB 1) Qe)))) (fun _ => rfl)) (Qa (Gb 2 [none, none, some 0] (Xw (nV 1)) (tgN 1) Y4 (mtd g 285 275 2 (Uu g) (aC (nB 1) Qe))) (Qa (Ju (Xw (cB g (.type "range") Zs (aC (Qh.of (cB g (.builtin "len") Zu (aC (nB 2) Qe))) Qe))) (tgN 3) (Qa (Ju (Xw (cB g (.type "range") Zs (aC (nB 3) Qe))) (tgN 4) (Qa (Xm (Jm (Qh.of (cF g 179 (F5 g) (aC (Qh.of (sub (nB 2) (nB 4))) (aC (Qh.of (sub (nB 2) (nB 3))) Qe)))) (Qh.of Zf) Bk) (Qa (Qs (XQ (vC (nV 4) (vC (nV 3) Qv)))) Qf) Qf) Qf)) (Qa (Xm (Jm (Qh.of (cF g 186 (BS g) (aC (Qh.of (sub (nB 2) (nB 3))) Qe))) (Qh.of Zf) Bk) (Qa (Qs (XQ (vC (nV 3) (vC (nV 3) Qv)))) Qf) Qf) Qf))) (Qa (Qs Zf) Qf)))) (U0 fun _ _ => by kernel_rfl)
noncomputable def Wa (K : W.Frag) : AEnv → Res Fl := (Qo (sIf (eOr (Y6 (XU (Qc (QA (ZR K) (Qb (eOp 0) Qj))))) (eOr (Y6 (JS leI leI (Qc (Qd (.int 3))) (eOp 0) (Qc (Qd (.int 12))))) Z3)) (Qo (Jw 44 (Qw (Qd (.str "there are 3 to 12 bells")) Xv)) Qy) Qy) Qy)
noncomputable def Jb (K : W.Frag) : List D → FOut := ZO 1 [0] (Wa K)
theorem Kr (g : Gr (gd p w B mg mb true)) : Zy (gd p w B mg mb true) 2 (.ref 132) (Jb (gd p w B mg mb true).K) :=
 fnI g 132 1 [0] (f := Wa (gd p w B mg mb true).K) (Qa (Xm (XC (Xj (XI (Y0 (Qh.of (cF g 125 (UI g) (aC (nB 0) Qe))))) (Xj (XI (chT (Qh.of (gI g 3 328)) (nB 0) (Qh.of (gI g 12 330)) On On)) Xx))) (Qa (CN g 44 F.excBase_ValueError (vC X9 Qv)) Qf) Qf) Qf) (Vp fun _ => by kernel_rfl)
noncomputable def Bg (K : W.Frag) : AEnv → Res Fl := (Qo (XF (Qc (QA (Jb K) (Qb (eOp 0) Qj)))) (Qo (XS (Q8 YT (Qb (Qc (Q8 XN (Qb (eOp 0) Qj))) Qj))) Qy))
noncomputable def K3 (K : W.Frag) : List D → FOut := ZO 1 [0] (Bg K)
theorem F0 (g : Gr (gd p w B mg mb true)) : Zy (gd p w B mg mb true) 3 (.ref 144) (K3 (gd p w B mg mb true).K) :=
 fnI g 144 1 [0] (f := Bg (gd p w B mg mb true).K) (Qa (UW (Qh.of (cF g 132 (Kr g) (aC (nB 0) Qe))) (fun _ => rfl)) (Qa (Qs (cB g (.type "tuple") (JM rfl) (aC (Qh.of (cB g (.type "range") Zs (aC (nB 0) Qe))) Qe))) Qf)) (Vp fun _ => by kernel_rfl)
noncomputable def Z8 (K : W.Frag) : AEnv → Res Fl := (Qo (sIf (eOr (Y6 (XU (Qc (QA (ZR K) (Qb (eOp 1) Qj))))) (eOr (Y6 (JS leI ltI (Qc (Qd (.int 0))) (eOp 1) (Qc (Q8 YD (Qb (Qc (Oy 285 "ways" 0)) Qj))))) Z3)) (Qo (Jw 92 (Qw (Qd (.str "no number of a call")) Xv)) Qy) Qy) Qy)
noncomputable def Xd (K : W.Frag) : List D → FOut := ZO 2 [0, 1] (Z8 K)
theorem JU (g : Gr (gd p w B mg mb true)) : Zy (gd p w B mg mb true) 2 (.ref 268) (Xd (gd p w B mg mb true).K) :=
 fnI g 268 2 [0, 1] (f := Z8 (gd p w B mg mb true).K) (Qa (Xm (XC (Xj (XI (Y0 (Qh.of (cF g 125 (UI g) (aC (nB 1) Qe))))) (Xj (XI (chT (Qh.of Ql) (nB 1) (Qh.of (cB g (.builtin "len") Zu (aC (Qh.of (atr g 285 0)) Qe))) On GW)) Xx))) (Qa (CN g 92 F.excBase_ValueError (vC X9 Qv)) Qf) Qf) Qf) (U0 fun _ _ => by kernel_rfl)
noncomputable def YF (K : W.Frag) : AEnv → Res Fl := (Qo (sIf (eOr (Y6 (XU (Qc (Q8 (Q1 K) (Qb (eOp 1) (Qb (Qc (Qd (.glob (.type "list")))) Qj)))))) (eOr (Xl gtI (Qc (Q8 YD (Qb (eOp 1) Qj))) (Qc (Qd (.int 40)))) Z3)) (Qo (Jw 92 (Qw (Qd (.str "a touch is a list of 0 to 40 numbers of calls")) Xv)) Qy) Qy) (Qo (YA (Xu (Xe 1)) (QF 2) (Qo (XF (Qc (J0 285 "need_call" 0 (Xd K) (Qb (eOp 2) Qj)))) Qy)) Qy))
noncomputable def X5 (K : W.Frag) : List D → FOut := ZO 3 [0, 1] (YF K)
theorem B5 (g : Gr (gd p w B mg mb true)) : Zy (gd p w B mg mb true) 3 (.ref 151) (X5 (gd p w B mg mb true).K) :=
 fnI g 151 3 [0, 1] (f := YF (gd p w B mg mb true).K) (Qa (Xm (XC (Xj (XI (Y0 (Qh.of (cB g (.builtin "isinstance") (Xa g.ok) (aC (nB 1) (aC (Qh.of (gB g (.type "list"))) Qe)))))) (Xj (Jm (Qh.of (cB g (.builtin "len") Zu (aC (nB 1) Qe))) (Qh.of (gI g 40 361)) DG) Xx))) (Qa (CN g 92 F.excBase_ValueError (vC X9 Qv)) Qf) Qf) (Qa (Ju (Xw (nV 1)) (tgN 2) (Qa (exM (YH.of (mtd g 285 268 0 (JU g) (aC (nB 2) Qe)))) Qf)) Qf)) (U0 fun _ _ => by kernel_rfl)
noncomputable def Um (K : W.Frag) : AEnv → Res Fl := (Qo (Qx 3 (J0 285 "lead" 0 (Zk K) (Qb (eOp 1) Qj))) (Qo (XF (Qc (J0 285 "need_call" 0 (Xd K) (Qb (eOp 2) Qj)))) (Qo (XS (QA (J7 K) (Qb (Qc (Qr Xn (eOp 3) (Qc (Jq Jl (Qc (Qd (.int 1))))))) (Qb (Qc (Qr Xn (Qc (Oy 285 "ways" 0)) (eOp 2))) Qj)))) Qy)))
noncomputable def Yy (K : W.Frag) : List D → FOut := ZO 4 [0, 1, 2] (Um K)
theorem Vy (g : Gr (gd p w B mg mb true)) : Zy (gd p w B mg mb true) 5 (.ref 282) (Yy (gd p w B mg mb true).K) :=
 fnI g 282 4 [0, 1, 2] (f := Um (gd p w B mg mb true).K) (Qa (asg 3 (mtd g 285 275 0 (Uu g) (aC (nB 1) Qe))) (Qa (exM (YH.of (mtd g 285 268 0 (JU g) (aC (nB 2) Qe)))) (Qa (Qs (cF g 219 (BE g) (aC (Qh.of (sub (nB 3) (Qh.of (XT (Qh.of Ql) JP)))) (aC (Qh.of (sub (Qh.of (atr g 285 0)) (nB 2))) Qe)))) Qf))) (H5 fun _ _ _ => by kernel_rfl)
noncomputable def VD (K : W.Frag) : AEnv → Res Fl := (Qo (XF (Qc (QA (X5 K) (Qb (eOp 0) (Qb (eOp 1) Qj))))) (Qo (Qx 2 (ZA (Qw (QA (K3 K) (Qb (Qc (Oy 285 "bells" 0)) Qj)) Xv))) (Qo (YA (Xu (Xe 1)) (QF 3) (Qo (XF (Qc (Za 2 (J0 285 "after" 0 (Yy K) (Qb (Qc (Qr Xn (eOp 2) (Qc (Jq Jl (Qc (Qd (.int 1))))))) (Qb (eOp 3) Qj)))))) Qy)) (Qo (JX 2) Qy))))
noncomputable def Wn (K : W.Frag) : List D → FOut := ZO 4 [0, 1] (VD K)
theorem G2 (g : Gr (gd p w B mg mb true)) : Zy (gd p w B mg mb true) 6 (.ref 158) (Wn (gd p w B mg mb true).K) :=
 fnI g 158 4 [0, 1] (f := VD (gd p w B mg mb true).K) (Qa (UW (Qh.of (cF g 151 (B5 g) (aC (nB 0) (aC (nB 1) Qe)))) (fun _ => rfl)) (Qa (asg 2 (Q4 (vC (cF g 144 (F0 g) (aC (Qh.of (atr g 285 0)) Qe)) Qv))) (Qa (Ju (Xw (nV 1)) (tgN 3) (Qa (exM (B1 2 (YH.of (mtd g 285 282 0 (Vy g) (aC (Qh.of (sub (nB 2) (Qh.of (XT (Qh.of Ql) JP)))) (aC (nB 3) Qe)))))) Qf)) (Qa (Hj 2) Qf)))) (U0 fun _ _ => by kernel_rfl)
noncomputable def CQ (K : W.Frag) : AEnv → Res Fl := (Qo (Qx 2 (ZA Xv)) (Qo (YA (Xu (ZQ (Qc (QA (Wn K) (Qb (eOp 0) (Qb (eOp 1) Qj)))) Zt (Jf (Qc (Jq Jl (Qc (Qd (.int 1)))))))) (QF 3) (Qo (XF (Qc (W3 2 (J0 285 "lead" 0 (Zk K) (Qb (eOp 3) Qj))))) Qy)) (Qo (JX 2) Qy)))
noncomputable def Ky (K : W.Frag) : List D → FOut := ZO 4 [0, 1] (CQ K)
theorem IE (g : Gr (gd p w B mg mb true)) : Zy (gd p w B mg mb true) 7 (.ref 165) (Ky (gd p w B mg mb true).K) :=
 fnI g 165 4 [0, 1] (f := CQ (gd p w B mg mb true).K) (Qa (asg 2 (Q4 Qv)) (Qa (Ju (Xw (Z4 (Qh.of (cF g 158 (G2 g) (aC (nB 0) (aC (nB 1) Qe)))) Z0 (ZE (Qh.of (XT (Qh.of Ql) JP))))) (tgN 3) (Qa (exM (LZ 2 (mtd g 285 275 0 (Uu g) (aC (nB 3) Qe)))) Qf)) (Qa (Hj 2) Qf))) (U0 fun _ _ => by kernel_rfl)
noncomputable def UR (K : W.Frag) : AEnv → Res Fl := (Qo (D7 1) (Qo (YA (Ve (Xe 0)) (ZD [2, 3]) (Qo (sIf (BN false (eOp 3) 1) (Qo (XS (YK (Qw (WQ 1 (eOp 3)) (Qw (Xe 2) Xv)))) Qy) Qy) (Qo (Bf 1 (eOp 3) (Xe 2)) Qy))) (Qo (XS (Qd .none)) Qy)))
noncomputable def JG (K : W.Frag) : List D → FOut := ZO 4 [0] (UR K)
theorem Bt (g : Gr (gd p w B mg mb true)) : Zy (gd p w B mg mb true) 1 (.ref 172) (JG (gd p w B mg mb true).K) :=
 fnI g 172 4 [0] (f := UR (gd p w B mg mb true).K) (Qa (OS g.ok (i := 1)) (Qa (Ju (enu g (nV 0)) (Hf 2 3) (Qa (Xm (V4 (i := 1) (nB 3)) (Qa (Qs (XQ (vC (V9 (i := 1) (nB 3)) (vC (nV 2) Qv)))) Qf) Qf) (Qa (Cf (i := 1) (nB 3) (nV 2)) Qf))) (Qa (Qs Zf) Qf))) (Vp fun _ => by kernel_rfl)
noncomputable def VE (K : W.Frag) : AEnv → Res Fl := (Qo (XS (QA (JG K) (Qb (Qc (QA (Ky K) (Qb (eOp 0) (Qb (eOp 1) Qj)))) Qj))) Qy)
noncomputable def YS (K : W.Frag) : List D → FOut := ZO 2 [0, 1] (VE K)
theorem WF (g : Gr (gd p w B mg mb true)) : Zy (gd p w B mg mb true) 8 (.ref 205) (YS (gd p w B mg mb true).K) :=
 fnI g 205 2 [0, 1] (f := VE (gd p w B mg mb true).K) (Qa (Qs (cF g 172 (Bt g) (aC (Qh.of (cF g 165 (IE g) (aC (nB 0) (aC (nB 1) Qe)))) Qe))) Qf) (U0 fun _ _ => by kernel_rfl)
noncomputable def KQ (K : W.Frag) : AEnv → Res Fl := (Qo (sIf (Xl ltI (eOp 1) (Qc (Q8 YD (Qb (eOp 0) Qj)))) (Qo (XS (Qr Xn (eOp 0) (eOp 1))) Qy) Qy) (Qo (XS (Qd (.int 0))) Qy))
noncomputable def Xb (K : W.Frag) : List D → FOut := ZO 2 [0, 1] (KQ K)
theorem Zd (g : Gr (gd p w B mg mb true)) : Zy (gd p w B mg mb true) 1 (.ref 296) (Xb (gd p w B mg mb true).K) :=
 fnI g 296 2 [0, 1] (f := KQ (gd p w B mg mb true).K) (Qa (Xm (Jm (nB 1) (Qh.of (cB g (.builtin "len") Zu (aC (nB 0) Qe))) GW) (Qa (Qs (sub (nB 0) (nB 1))) Qf) Qf) (Qa (Qs Ql) Qf)) (U0 fun _ _ => by kernel_rfl)
noncomputable def OO (K : W.Frag) : AEnv → Res Fl := (Qo (XS (Qr XB (Qc (Qr Xg (Qc (Qr Xg (Qc (Qr Xg (Qc (Qr WL (eOp 0) (Qc (Qd (.int 48271))))) (Qc (Qr WL (Qc (Qr WL (Qc (Qd (.int 7919))) (eOp 1))) (eOp 1))))) (Qc (Qr WL (Qc (Qd (.int 104729))) (eOp 1))))) (Qc (Qd (.int 12345))))) (Qc (Qd (.int 2147483647))))) Qy)
noncomputable def Xq (K : W.Frag) : List D → FOut := ZO 2 [0, 1] (OO K)
theorem Yc (g : Gr (gd p w B mg mb true)) : Zy (gd p w B mg mb true) 1 (.ref 303) (Xq (gd p w B mg mb true).K) :=
 fnI g 303 2 [0, 1] (f := OO (gd p w B mg mb true).K) (Qa (Qs (Qk (Qh.of (Qk (Qh.of (Qk (Qh.of (Qk (Qh.of (Qk (nB 0) (Qh.of Ql) Wf)) (Qh.of (Qk (Qh.of (Qk (Qh.of Ql) (nB 1) Wf)) (nB 1) Wf)) Xc)) (Qh.of (Qk (Qh.of Ql) (nB 1) Wf)) Xc)) (Qh.of Ql) Xc)) (Qh.of Ql) XZ)) Qf) (U0 fun _ _ => by kernel_rfl)
noncomputable def J3 (K : W.Frag) : AEnv → Res Fl := (Qo (Qx 2 (ZA Xv)) (Qo (Qx 3 (Qd (.int 0))) (Qo (BP 1000 (Xl ltI (eOp 3) (Qc (Qr OE (eOp 1) (Qc (Qd (.int 1)))))) (Qo (sIf (Xl gtI (Qc (Qr XB (Qc (Qr ZC (Qc (QA (Xq K) (Qb (eOp 0) (Qb (eOp 3) Qj)))) (Qc (Qd (.int 5))))) (Qc (Qd (.int 3))))) (Qc (Qd (.int 0)))) (Qo (XF (Qc (Za 2 (Xe 3)))) (Qo (Qx 3 (Qr Xg (eOp 3) (Qc (Qd (.int 1))))) Qy)) Qy) (Qo (Qx 3 (Qr Xg (eOp 3) (Qc (Qd (.int 1))))) Qy))) (Qo (sIf (Xl eqI (eOp 2) (Qc (ZA Xv))) (Qo (Qx 2 (ZA (Qw (Qr XB (Qc (QA (Xq K) (Qb (eOp 0) (Qb (Qc (Qd (.int 20))) Qj)))) (Qc (Qr OE (eOp 1) (Qc (Qd (.int 1)))))) Xv))) Qy) Qy) (Qo (XS (Q8 YT (Qb (eOp 2) Qj))) Qy)))))
noncomputable def Zi (K : W.Frag) : List D → FOut := ZO 4 [0, 1] (J3 K)
theorem Ko (g : Gr (gd p w B mg mb true)) : Zy (gd p w B mg mb true) 2 (.ref 317) (Zi (gd p w B mg mb true).K) :=
 fnI g 317 4 [0, 1] (f := J3 (gd p w B mg mb true).K) (Qa (asg 2 (Q4 Qv)) (Qa (asg 3 Ql) (Qa (EB (Jm (nB 3) (Qh.of (Qk (nB 1) (Qh.of Ql) Bm)) GW) (Qa (Xm (Jm (Qh.of (Qk (Qh.of (Qk (Qh.of (cF g 303 (Yc g) (aC (nB 0) (aC (nB 3) Qe)))) (Qh.of Ql) ZW)) (Qh.of Ql) XZ)) (Qh.of Ql) DG) (Qa (exM (B1 2 (YH.of (nV 3)))) (Qa (asg 3 (Qk (nB 3) (Qh.of Ql) Xc)) Qf)) Qf) (Qa (asg 3 (Qk (nB 3) (Qh.of Ql) Xc)) Qf))) (Qa (Xm (Jm (nB 2) (Qh.of (Q4 Qv)) Ur) (Qa (asg 2 (Q4 (vC (Qk (Qh.of (cF g 303 (Yc g) (aC (nB 0) (aC (Qh.of Ql) Qe)))) (Qh.of (Qk (nB 1) (Qh.of Ql) Bm)) XZ) Qv))) Qf) Qf) (Qa (Qs (cB g (.type "tuple") (JM rfl) (aC (nB 2) Qe))) Qf))))) (U0 fun _ _ => by kernel_rfl)
noncomputable def KG (K : W.Frag) : AEnv → Res Fl := (Qo (sIf (Xl eqI (Qc (Qr XB (eOp 0) (Qc (Qd (.int 8))))) (Qc (Qd (.int 1)))) (Qo (XS (Qr Xg (Qc (Qd (.int 8))) (Qc (Qr XB (Qc (Qr ZC (eOp 0) (Qc (Qd (.int 8))))) (Qc (Qd (.int 23))))))) Qy) Qy) (Qo (XS (Qr XB (Qc (Qr ZC (eOp 0) (Qc (Qd (.int 8))))) (Qc (Qd (.int 8))))) Qy))
noncomputable def Wj (K : W.Frag) : List D → FOut := ZO 1 [0] (KG K)
theorem D9 (g : Gr (gd p w B mg mb true)) : Zy (gd p w B mg mb true) 1 (.ref 336) (Wj (gd p w B mg mb true).K) :=
 fnI g 336 1 [0] (f := KG (gd p w B mg mb true).K) (Qa (Xm (Jm (Qh.of (Qk (nB 0) (Qh.of Ql) XZ)) (Qh.of Ql) Ur) (Qa (Qs (Qk (Qh.of Ql) (Qh.of (Qk (Qh.of (Qk (nB 0) (Qh.of Ql) ZW)) (Qh.of Ql) XZ)) Xc)) Qf) Qf) (Qa (Qs (Qk (Qh.of (Qk (nB 0) (Qh.of Ql) ZW)) (Qh.of Ql) XZ)) Qf)) (Vp fun _ => by kernel_rfl)
noncomputable def WB (K : W.Frag) : AEnv → Res Fl := (Qo (Qx 3 (QA (Xb K) (Qb (eOp 0) (Qb (eOp 1) Qj)))) (Qo (Qx 4 (ZA Xv)) (Qo (YA (Xu (Q8 XN (Qb (Qc (QA (Wj K) (Qb (eOp 3) Qj))) Qj))) (QF 5) (Qo (XF (Qc (Za 4 (QA (Zi K) (Qb (Qc (QA (Xq K) (Qb (Qc (QA (Xb K) (Qb (eOp 0) (Qb (Qc (Qr Xg (Qc (Qr Xg (eOp 1) (Qc (Qd (.int 2))))) (Qc (Qr XB (eOp 5) (Qc (Qd (.int 6))))))) Qj)))) (Qb (Qc (Qr ZC (eOp 5) (Qc (Qd (.int 6))))) Qj)))) (Qb (eOp 2) Qj)))))) Qy)) (Qo (Qx 6 (QA (Xb K) (Qb (eOp 0) (Qb (Qc (Qr Xg (eOp 1) (Qc (Qd (.int 1))))) Qj)))) (Qo (Qx 7 (Ys [none, none, some 2, some 6] (Xu (Q8 XN (Qb (Qc (Qr Xg (Qc (Qd (.int 1))) (Qc (Qr XB (Qc (Qr ZC (eOp 3) (Qc (Qd (.int 40))))) (Qc (Qd (.int 4))))))) Qj))) (QF 1) Ux (QA (Zi K) (Qb (Qc (QA (Xq K) (Qb (eOp 3) (Qb (Qc (Qr Xg (Qc (Qd (.int 30))) (eOp 1))) Qj)))) (Qb (eOp 2) Qj))))) (Qo (XS (YK (Qw (Xe 4) (Qw (Xe 7) Xv)))) Qy))))))
noncomputable def Y5 (K : W.Frag) : List D → FOut := ZO 8 [0, 1, 2] (WB K)
theorem C3 (g : Gr (gd p w B mg mb true)) : Zy (gd p w B mg mb true) 3 (.ref 341) (Y5 (gd p w B mg mb true).K) :=
 fnI g 341 8 [0, 1, 2] (f := WB (gd p w B mg mb true).K) (Qa (asg 3 (cF g 296 (Zd g) (aC (nB 0) (aC (nB 1) Qe)))) (Qa (asg 4 (Q4 Qv)) (Qa (Ju (Xw (cB g (.type "range") Zs (aC (Qh.of (cF g 336 (D9 g) (aC (nB 3) Qe))) Qe))) (tgN 5) (Qa (exM (B1 4 (YH.of (cF g 317 (Ko g) (aC (Qh.of (cF g 303 (Yc g) (aC (Qh.of (cF g 296 (Zd g) (aC (nB 0) (aC (Qh.of (Qk (Qh.of (Qk (nB 1) (Qh.of Ql) Xc)) (Qh.of (Qk (nB 5) (Qh.of Ql) XZ)) Xc)) Qe)))) (aC (Qh.of (Qk (nB 5) (Qh.of Ql) ZW)) Qe)))) (aC (nB 2) Qe)))))) Qf)) (Qa (asg 6 (cF g 296 (Zd g) (aC (nB 0) (aC (Qh.of (Qk (nB 1) (Qh.of Ql) Xc)) Qe)))) (Qa (Gb 7 [none, none, some 2, some 6] (Xw (cB g (.type "range") Zs (aC (Qh.of (Qk (Qh.of Ql) (Qh.of (Qk (Qh.of (Qk (nB 3) (Qh.of Ql) ZW)) (Qh.of Ql) XZ)) Xc)) Qe))) (tgN 1) Y4 (cF g 317 (Ko g) (aC (Qh.of (cF g 303 (Yc g) (aC (nB 3) (aC (Qh.of (Qk (Qh.of Ql) (nB 1) Xc)) Qe)))) (aC (nB 2) Qe)))) (Qa (Qs (XQ (vC (nV 4) (vC (nV 7) Qv)))) Qf)))))) (H5 fun _ _ _ => by kernel_rfl)
noncomputable def KM (K : W.Frag) : AEnv → Res Fl := (Qo (Qx 2 (Q8 Yv (Qb (eOp 0) Qj))) (Qo (YA (Xu (Xe 1)) (QF 3) (Qo (Qx 2 (Qr Xg (Qc (Qr Xg (Qc (ZQ (eOp 2) Zt (Jf (eOp 3)))) (Qc (ZA (Qw (Qr Xn (eOp 2) (Qc (Qr Xg (eOp 3) (Qc (Qd (.int 1)))))) (Qw (Qr Xn (eOp 2) (eOp 3)) Xv)))))) (Qc (ZQ (eOp 2) (Jf (Qc (Qr Xg (eOp 3) (Qc (Qd (.int 2)))))) Zt)))) Qy)) (Qo (XS (Q8 YT (Qb (eOp 2) Qj))) Qy)))
noncomputable def Yx (K : W.Frag) : List D → FOut := ZO 4 [0, 1] (KM K)
theorem Vf (g : Gr (gd p w B mg mb true)) : Zy (gd p w B mg mb true) 1 (.ref 324) (Yx (gd p w B mg mb true).K) :=
 fnI g 324 4 [0, 1] (f := KM (gd p w B mg mb true).K) (Qa (asg 2 (cB g (.type "list") (YR rfl) (aC (nB 0) Qe))) (Qa (Ju (Xw (nV 1)) (tgN 3) (Qa (asg 2 (Qk (Qh.of (Qk (Qh.of (Z4 (nB 2) Z0 (ZE (nB 3)))) (Qh.of (Q4 (vC (sub (nB 2) (Qh.of (Qk (nB 3) (Qh.of Ql) Xc))) (vC (sub (nB 2) (nB 3)) Qv)))) Xc)) (Qh.of (Z4 (nB 2) (ZE (Qh.of (Qk (nB 3) (Qh.of Ql) Xc))) Z0)) Xc)) Qf)) (Qa (Qs (cB g (.type "tuple") (JM rfl) (aC (nB 2) Qe))) Qf))) (U0 fun _ _ => by kernel_rfl)
noncomputable def KT (K : W.Frag) : AEnv → Res Fl := (Qo (Qx 2 (ZA (Qw (Xe 0) Xv))) (Qo (YA (Xu (Xe 1)) (QF 3) (Qo (XF (Qc (Za 2 (QA (Yx K) (Qb (Qc (Qr Xn (eOp 2) (Qc (Jq Jl (Qc (Qd (.int 1))))))) (Qb (eOp 3) Qj)))))) Qy)) (Qo (JX 2) Qy)))
noncomputable def Yb (K : W.Frag) : List D → FOut := ZO 4 [0, 1] (KT K)
theorem Vk (g : Gr (gd p w B mg mb true)) : Zy (gd p w B mg mb true) 2 (.ref 348) (Yb (gd p w B mg mb true).K) :=
 fnI g 348 4 [0, 1] (f := KT (gd p w B mg mb true).K) (Qa (asg 2 (Q4 (vC (nV 0) Qv))) (Qa (Ju (Xw (nV 1)) (tgN 3) (Qa (exM (B1 2 (YH.of (cF g 324 (Vf g) (aC (Qh.of (sub (nB 2) (Qh.of (XT (Qh.of Ql) JP)))) (aC (nB 3) Qe)))))) Qf)) (Qa (Hj 2) Qf))) (U0 fun _ _ => by kernel_rfl)
noncomputable def WN (K : W.Frag) : AEnv → Res Fl := (Qo (Qx 4 (ZA (Qw (Q8 YT (Qb (Qc (Q8 XN (Qb (eOp 0) Qj))) Qj)) Xv))) (Qo (Qx 5 (ZA Xv)) (Qo (YA (Xu (Xe 3)) (QF 6) (Qo (Qx 7 (QA (Yb K) (Qb (Qc (Qr Xn (eOp 4) (Qc (Jq Jl (Qc (Qd (.int 1))))))) (Qb (eOp 1) Qj)))) (Qo (XF (Qc (Za 5 (Xe 7)))) (Qo (XF (Qc (Za 4 (QA (Yx K) (Qb (Qc (Qr Xn (eOp 7) (Qc (Jq Jl (Qc (Qd (.int 1))))))) (Qb (Qc (Qr Xn (eOp 2) (eOp 6))) Qj)))))) Qy)))) (Qo (XS (YK (Qw (Xe 4) (Qw (Xe 5) Xv)))) Qy))))
noncomputable def JK (K : W.Frag) : List D → FOut := ZO 8 [0, 1, 2, 3] (WN K)
theorem C1 (g : Gr (gd p w B mg mb true)) : Zy (gd p w B mg mb true) 3 (.ref 355) (JK (gd p w B mg mb true).K) :=
 fnI g 355 8 [0, 1, 2, 3] (f := WN (gd p w B mg mb true).K) (Qa (asg 4 (Q4 (vC (cB g (.type "tuple") (JM rfl) (aC (Qh.of (cB g (.type "range") Zs (aC (nB 0) Qe))) Qe)) Qv))) (Qa (asg 5 (Q4 Qv)) (Qa (Ju (Xw (nV 3)) (tgN 6) (Qa (asg 7 (cF g 348 (Vk g) (aC (Qh.of (sub (nB 4) (Qh.of (XT (Qh.of Ql) JP)))) (aC (nB 1) Qe)))) (Qa (exM (B1 5 (YH.of (nV 7)))) (Qa (exM (B1 4 (YH.of (cF g 324 (Vf g) (aC (Qh.of (sub (nB 7) (Qh.of (XT (Qh.of Ql) JP)))) (aC (Qh.of (sub (nB 2) (nB 6))) Qe)))))) Qf)))) (Qa (Qs (XQ (vC (nV 4) (vC (nV 5) Qv)))) Qf)))) (F1 fun _ _ _ _ => by kernel_rfl)
noncomputable def WM (K : W.Frag) : AEnv → Res Fl := (Qo (Qx 4 (QA (Xb K) (Qb (eOp 0) (Qb (eOp 1) Qj)))) (Qo (Qx 5 (Qr XB (Qc (Qr ZC (eOp 4) (Qc (Qd (.int 3))))) (Qc (Qr Xg (Qc (Qd (.int 1))) (Qc (Q8 Ga (Qb (Qc (Qd (.int 8))) (Qb (Qc (Qr ZC (Qc (Qd (.int 48))) (eOp 2))) Qj)))))))) (Qo (sIf (Xl eqI (Qc (Qr XB (eOp 4) (Qc (Qd (.int 3))))) (Qc (Qd (.int 0)))) (Qo (XS (Qr WL (Qc (ZA (Qw (Qr XB (Qc (Qr ZC (eOp 4) (Qc (Qd (.int 30))))) (eOp 3)) Xv))) (eOp 5))) Qy) Qy) (Qo (Qx 6 (Qr Xn (Qc (ZA (Qw (Xe 3) (Qw (Qr Xg (Qc (Qd (.int 1))) (Qc (Qr ZC (eOp 3) (Qc (Qd (.int 2)))))) Xv)))) (Qc (Qr OE (Qc (Qr XB (eOp 4) (Qc (Qd (.int 3))))) (Qc (Qd (.int 1))))))) (Qo (XS (Ys [none, none, some 0, some 6, some 1] (Xu (Q8 XN (Qb (eOp 5) Qj))) (QF 1) Ux (Qr XB (Qc (Qr ZC (Qc (QA (Xq K) (Qb (Qc (QA (Xb K) (Qb (eOp 2) (Qb (Qc (Qr Xg (Qc (Qr Xg (eOp 4) (Qc (Qd (.int 1))))) (Qc (Qr XB (eOp 1) (Qc (Qd (.int 4))))))) Qj)))) (Qb (Qc (Qr ZC (eOp 1) (Qc (Qd (.int 4))))) Qj)))) (Qc (Qd (.int 9))))) (eOp 3)))) Qy)))))
noncomputable def JH (K : W.Frag) : List D → FOut := ZO 7 [0, 1, 2, 3] (WM K)
theorem Dk (g : Gr (gd p w B mg mb true)) : Zy (gd p w B mg mb true) 2 (.ref 360) (JH (gd p w B mg mb true).K) :=
 fnI g 360 7 [0, 1, 2, 3] (f := WM (gd p w B mg mb true).K) (Qa (asg 4 (cF g 296 (Zd g) (aC (nB 0) (aC (nB 1) Qe)))) (Qa (asg 5 (Qk (Qh.of (Qk (nB 4) (Qh.of Ql) ZW)) (Qh.of (Qk (Qh.of Ql) (Qh.of (cB g (.builtin "min") (Hk rfl) (aC (Qh.of Ql) (aC (Qh.of (Qk (Qh.of Ql) (nB 2) ZW)) Qe)))) Xc)) XZ)) (Qa (Xm (Jm (Qh.of (Qk (nB 4) (Qh.of Ql) XZ)) (Qh.of Ql) Ur) (Qa (Qs (Qk (Qh.of (Q4 (vC (Qk (Qh.of (Qk (nB 4) (Qh.of Ql) ZW)) (nB 3) XZ) Qv))) (nB 5) Wf)) Qf) Qf) (Qa (asg 6 (sub (Qh.of (Q4 (vC (nV 3) (vC (Qk (Qh.of Ql) (Qh.of (Qk (nB 3) (Qh.of Ql) ZW)) Xc) Qv)))) (Qh.of (Qk (Qh.of (Qk (nB 4) (Qh.of Ql) XZ)) (Qh.of Ql) Bm)))) (Qa (Qs (lc [none, none, some 0, some 6, some 1] (Xw (cB g (.type "range") Zs (aC (nB 5) Qe))) (tgN 1) Y4 (Qk (Qh.of (Qk (Qh.of (cF g 303 (Yc g) (aC (Qh.of (cF g 296 (Zd g) (aC (nB 2) (aC (Qh.of (Qk (Qh.of (Qk (nB 4) (Qh.of Ql) Xc)) (Qh.of (Qk (nB 1) (Qh.of Ql) XZ)) Xc)) Qe)))) (aC (Qh.of (Qk (nB 1) (Qh.of Ql) ZW)) Qe)))) (Qh.of Ql) ZW)) (nB 3) XZ))) Qf))))) (F1 fun _ _ _ _ => by kernel_rfl)
noncomputable def WO (K : W.Frag) : AEnv → Res Fl := (Qo (YA (Xu (Q8 XN (Qb (Qc (Q8 YD (Qb (eOp 0) Qj))) Qj))) (QF 1) (Qo (YA (Xu (Q8 XN (Qb (eOp 1) Qj))) (QF 2) (Qo (sIf (Xl eqI (Qc (Qr Xn (eOp 0) (eOp 2))) (Qc (Qr Xn (eOp 0) (eOp 1)))) (Qo (XS (YK (Qw (Xe 2) (Qw (Xe 1) Xv)))) Qy) Qy) Qy)) Qy)) (Qo (XS (Qd .none)) Qy))
noncomputable def Zm (K : W.Frag) : List D → FOut := ZO 3 [0] (WO K)
theorem Ja (g : Gr (gd p w B mg mb true)) : Zy (gd p w B mg mb true) 1 (.ref 367) (Zm (gd p w B mg mb true).K) :=
 fnI g 367 3 [0] (f := WO (gd p w B mg mb true).K) (Qa (Ju (Xw (cB g (.type "range") Zs (aC (Qh.of (cB g (.builtin "len") Zu (aC (nB 0) Qe))) Qe))) (tgN 1) (Qa (Ju (Xw (cB g (.type "range") Zs (aC (nB 1) Qe))) (tgN 2) (Qa (Xm (Jm (Qh.of (sub (nB 0) (nB 2))) (Qh.of (sub (nB 0) (nB 1))) Ur) (Qa (Qs (XQ (vC (nV 2) (vC (nV 1) Qv)))) Qf) Qf) Qf)) Qf)) (Qa (Qs Zf) Qf)) (Vp fun _ => by kernel_rfl)
noncomputable def UM (K : W.Frag) : AEnv → Res Fl := (Qo (D7 1) (Qo (YA (Xu (Q8 XN (Qb (Qc (Q8 YD (Qb (eOp 0) Qj))) Qj))) (QF 2) (Qo (Qx 4 (Ys [none, none, some 1] (Xu (Qr Xn (eOp 0) (eOp 2))) (QF 1) (BN false (eOp 1) 2) (WQ 2 (eOp 1)))) (Qo (sIf (Xl neI (eOp 4) (Qc (ZA Xv))) (Qo (XS (YK (Qw (Q8 Ga (Qb (eOp 4) Qj)) (Qw (Xe 2) Xv)))) Qy) Qy) (Qo (sIf (Xl YX (Qc (QA (Zm K) (Qb (Qc (Qr Xn (eOp 0) (eOp 2))) Qj))) (Qc (Qd .none))) (Qo (XS (YK (Qw (Xe 2) (Qw (Xe 2) Xv)))) Qy) Qy) (Qo (YA (Xu (Qr Xn (eOp 0) (eOp 2))) (QF 3) (Qo (Bf 1 (eOp 3) (Xe 2)) Qy)) Qy))))) (Qo (XS (Qd .none)) Qy)))
noncomputable def Yq (K : W.Frag) : List D → FOut := ZO 5 [0] (UM K)
theorem WW (g : Gr (gd p w B mg mb true)) : Zy (gd p w B mg mb true) 2 (.ref 372) (Yq (gd p w B mg mb true).K) :=
 fnI g 372 5 [0] (f := UM (gd p w B mg mb true).K) (Qa (OS g.ok (i := 1) (hk := .inr (by kernel_rfl))) (Qa (Ju (Xw (cB g (.type "range") Zs (aC (Qh.of (cB g (.builtin "len") Zu (aC (nB 0) Qe))) Qe))) (tgN 2) (Qa (Gb 4 [none, none, some 1] (Xw (sub (nB 0) (nB 2))) (tgN 1) (Cs (V4 (i := 2) (nB 1))) (V9 (i := 2) (nB 1))) (Qa (Xm (Jm (nB 4) (Qh.of (Q4 Qv)) Cw) (Qa (Qs (XQ (vC (cB g (.builtin "min") (Hk rfl) (aC (nB 4) Qe)) (vC (nV 2) Qv)))) Qf) Qf) (Qa (Xm (Jm (Qh.of (cF g 367 (Ja g) (aC (Qh.of (sub (nB 0) (nB 2))) Qe))) (Qh.of Zf) Bk) (Qa (Qs (XQ (vC (nV 2) (vC (nV 2) Qv)))) Qf) Qf) (Qa (Ju (Xw (sub (nB 0) (nB 2))) (tgN 3) (Qa (Cf (i := 1) (nB 3) (nV 2)) Qf)) Qf))))) (Qa (Qs Zf) Qf))) (Vp fun _ => by kernel_rfl)
noncomputable def KR (K : W.Frag) : AEnv → Res Fl := (Qo (sIf (eOr (Xl isI (eOp 1) (Qc (Qd .none))) (eOr (Xl isI (eOp 0) (Qc (Qd .none))) Z3)) (Qo (XS (eBo .And (Qc (Qr isI (eOp 0) (Qc (Qd .none)))) (Qr isI (eOp 1) (Qc (Qd .none))))) Qy) Qy) (Qo (sIf (eOr (Y6 (XU (Qc (Q8 (Q1 K) (Qb (eOp 0) (Qb (Qc (Qd (.glob (.type "tuple")))) Qj)))))) (eOr (Xl neI (eOp 0) (eOp 1)) Z3)) (Qo (XS (Qd (.bool false))) Qy) Qy) (Qo (XS (Q8 Gw (Qb (Qc (Ys [none, none] (Xu (Xe 0)) (QF 1) Ux (eBo .And (Qc (Q8 (Q1 K) (Qb (eOp 1) (Qb (Qc (Qd (.glob (.type "int")))) Qj)))) (Jq EP (Qc (Q8 (Q1 K) (Qb (eOp 1) (Qb (Qc (Qd (.glob (.type "bool")))) Qj)))))))) Qj))) Qy)))
noncomputable def ZV (K : W.Frag) : List D → FOut := ZO 2 [0, 1] (KR K)
theorem Y2 (g : Gr (gd p w B mg mb true)) : Zy (gd p w B mg mb true) 1 (.ref 377) (ZV (gd p w B mg mb true).K) :=
 fnI g 377 2 [0, 1] (f := KR (gd p w B mg mb true).K) (Qa (Xm (XC (Xj (Jm (nB 1) (Qh.of Zf) Cm) (Xj (Jm (nB 0) (Qh.of Zf) Cm) Xx))) (Qa (Qs (Js (Jy (Qh.of (B6 (nB 0) (Qh.of Zf) Cm)) (J5 (B6 (nB 1) (Qh.of Zf) Cm))))) Qf) Qf) (Qa (Xm (XC (Xj (XI (Y0 (Qh.of (cB g (.builtin "isinstance") (Xa g.ok) (aC (nB 0) (aC (Qh.of (gB g (.type "tuple"))) Qe)))))) (Xj (Jm (nB 0) (nB 1) Cw) Xx))) (Qa (Qs Yj) Qf) Qf) (Qa (Qs (cB g (.builtin "all") (Id rfl) (aC (Qh.of (lc [none, none] (Xw (nV 0)) (tgN 1) Y4 (Js (Jy (Qh.of (cB g (.builtin "isinstance") (Xa g.ok) (aC (nB 1) (aC (Qh.of (gB g (.type "int"))) Qe)))) (J5 (XT (Qh.of (cB g (.builtin "isinstance") (Xa g.ok) (aC (nB 1) (aC (Qh.of (gB g (.type "bool"))) Qe)))) HZ)))))) Qe))) Qf))) (U0 fun _ _ => by kernel_rfl)
noncomputable def OK (K : W.Frag) : AEnv → Res Fl := (Qo (Qx 2 (Q8 Yv (Qb (Qc (Q8 XN (Qb (eOp 1) Qj))) Qj))) (Qo (Qx 3 (ZA Xv)) (Qo (YA (Xu (Q8 XN (Qb (eOp 1) Qj))) (QF 4) (Qo (XF (Qc (Za 3 (GO 2 (Qc (Qr XB (Qc (Qr ZC (Qc (QA (Xq K) (Qb (eOp 0) (Qb (eOp 4) Qj)))) (Qc (Qd (.int 7))))) (Qc (Q8 YD (Qb (eOp 2) Qj))))))))) Qy)) (Qo (XS (Q8 YT (Qb (eOp 3) Qj))) Qy))))
noncomputable def U1 (K : W.Frag) : List D → FOut := ZO 5 [0, 1] (OK K)
theorem E7 (g : Gr (gd p w B mg mb true)) : Zy (gd p w B mg mb true) 2 (.ref 310) (U1 (gd p w B mg mb true).K) :=
 fnI g 310 5 [0, 1] (f := OK (gd p w B mg mb true).K) (Qa (asg 2 (cB g (.type "list") (YR rfl) (aC (Qh.of (cB g (.type "range") Zs (aC (nB 1) Qe))) Qe))) (Qa (asg 3 (Q4 Qv)) (Qa (Ju (Xw (cB g (.type "range") Zs (aC (nB 1) Qe))) (tgN 4) (Qa (exM (B1 3 (Mb 2 (Qh.of (Qk (Qh.of (Qk (Qh.of (cF g 303 (Yc g) (aC (nB 0) (aC (nB 4) Qe)))) (Qh.of Ql) ZW)) (Qh.of (cB g (.builtin "len") Zu (aC (nB 2) Qe))) XZ))))) Qf)) (Qa (Qs (cB g (.type "tuple") (JM rfl) (aC (nB 3) Qe))) Qf)))) (U0 fun _ _ => by kernel_rfl)
noncomputable def KH (K : W.Frag) : AEnv → Res Fl := (Qo (Qx 4 (Ys [none, none] (Xu (Xe 1)) (QF 1) Ux (Xe 1))) (Qo (YA (Xu (Xe 2)) (QF 5) (Qo (Qx 4 (Qr Xg (eOp 4) (eOp 5))) Qy)) (Qo (Qx 6 (ZA Xv)) (Qo (Qx 7 (Qr XB (Qc (QA (Xb K) (Qb (eOp 0) (Qb (Qc (Qd (.int 14))) Qj)))) (Qc (Qd (.int 10))))) (Qo (sIf (Xl eqI (Qc (Qr XB (Qc (Qr ZC (Qc (QA (Xb K) (Qb (eOp 0) (Qb (Qc (Qd (.int 14))) Qj)))) (Qc (Qd (.int 10))))) (Qc (Qd (.int 16))))) (Qc (Qd (.int 1)))) (Qo (Qx 7 (Qd (.int 60))) Qy) Qy) (Qo (YA (Xu (Q8 XN (Qb (eOp 7) Qj))) (QF 8) (Qo (Qx 9 (QA (Xq K) (Qb (Qc (QA (Xb K) (Qb (eOp 0) (Qb (Qc (Qr Xg (Qc (Qd (.int 15))) (Qc (Qr XB (eOp 8) (Qc (Qd (.int 5))))))) Qj)))) (Qb (Qc (Qr Xg (Qc (Qd (.int 11))) (Qc (Qr ZC (eOp 8) (Qc (Qd (.int 5))))))) Qj)))) (Qo (Qx 10 (Qr Xn (eOp 4) (Qc (Qr XB (Qc (Qr ZC (eOp 9) (Qc (Qd (.int 3))))) (Qc (Q8 YD (Qb (eOp 4) Qj))))))) (Qo (XF (Qc (Za 6 (Qr Xn (Qc (ZA (Qw (QA (U1 K) (Qb (eOp 9) (Qb (eOp 3) Qj))) (Qw (Xe 10) (Qw (Xe 10) Xv))))) (Qc (Qr Xn (Qc (ZA (Qw (Qr XB (eOp 9) (Qc (Qd (.int 3)))) (Qw (Qd (.int 0)) Xv)))) (Qc (Q8 GC (Qb (Qc (eBo .And (Qc (Qr eqI (eOp 7) (Qc (Qd (.int 60))))) (Qr gtI (Qc (Qr XB (eOp 8) (Qc (Qd (.int 20))))) (Qc (Qd (.int 0)))))) Qj))))))))) Qy)))) (Qo (JX 6) Qy)))))))
noncomputable def Wp (K : W.Frag) : List D → FOut := ZO 11 [0, 1, 2, 3] (KH K)
theorem Eg (g : Gr (gd p w B mg mb true)) : Zy (gd p w B mg mb true) 3 (.ref 389) (Wp (gd p w B mg mb true).K) :=
 fnI g 389 11 [0, 1, 2, 3] (f := KH (gd p w B mg mb true).K) (Qa (Gb 4 [none, none] (Xw (nV 1)) (tgN 1) Y4 (nV 1)) (Qa (Ju (Xw (nV 2)) (tgN 5) (Qa (asg 4 (Qk (nB 4) (nB 5) Xc)) Qf)) (Qa (asg 6 (Q4 Qv)) (Qa (asg 7 (Qk (Qh.of (cF g 296 (Zd g) (aC (nB 0) (aC (Qh.of Ql) Qe)))) (Qh.of Ql) XZ)) (Qa (Xm (Jm (Qh.of (Qk (Qh.of (Qk (Qh.of (cF g 296 (Zd g) (aC (nB 0) (aC (Qh.of Ql) Qe)))) (Qh.of Ql) ZW)) (Qh.of Ql) XZ)) (Qh.of Ql) Ur) (Qa (asg 7 Ql) Qf) Qf) (Qa (Ju (Xw (cB g (.type "range") Zs (aC (nB 7) Qe))) (tgN 8) (Qa (asg 9 (cF g 303 (Yc g) (aC (Qh.of (cF g 296 (Zd g) (aC (nB 0) (aC (Qh.of (Qk (Qh.of Ql) (Qh.of (Qk (nB 8) (Qh.of Ql) XZ)) Xc)) Qe)))) (aC (Qh.of (Qk (Qh.of Ql) (Qh.of (Qk (nB 8) (Qh.of Ql) ZW)) Xc)) Qe)))) (Qa (asg 10 (sub (nB 4) (Qh.of (Qk (Qh.of (Qk (nB 9) (Qh.of Ql) ZW)) (Qh.of (cB g (.builtin "len") Zu (aC (nB 4) Qe))) XZ)))) (Qa (exM (B1 6 (YH.of (sub (Qh.of (Q4 (vC (cF g 310 (E7 g) (aC (nB 9) (aC (nB 3) Qe))) (vC (nV 10) (vC (nV 10) Qv))))) (Qh.of (sub (Qh.of (Q4 (vC (Qk (nB 9) (Qh.of Ql) XZ) (vC Ql Qv)))) (Qh.of (cB g (.type "int") I9 (aC (Qh.of (Js (Jy (Qh.of (B6 (nB 7) (Qh.of Ql) Ur)) (J5 (B6 (Qh.of (Qk (nB 8) (Qh.of Ql) XZ)) (Qh.of Ql) DG))))) Qe))))))))) Qf)))) (Qa (Hj 6) Qf))))))) (F1 fun _ _ _ _ => by kernel_rfl)
noncomputable def KS (K : W.Frag) : AEnv → Res Fl := (Qo (Qx 1 (ZA (Qw (YK (Qw (Qd (.str "bells")) (Qw (Q8 (Q1 K) (Qb (eOp 0) (Qb (Qc (Qd (.glob (.ref 44)))) Qj))) Xv))) (Qw (YK (Qw (Qd (.str "row")) (Qw (Q8 (Q1 K) (Qb (eOp 0) (Qb (Qc (Qd (.glob (.ref 56)))) Qj))) Xv))) (Qw (YK (Qw (Qd (.str "change")) (Qw (Q8 (Q1 K) (Qb (eOp 0) (Qb (Qc (Qd (.glob (.ref 68)))) Qj))) Xv))) Xv))))) (Qo (Qx 1 (Qr Xg (eOp 1) (Qc (ZA (Qw (YK (Qw (Qd (.str "method")) (Qw (Q8 (Q1 K) (Qb (eOp 0) (Qb (Qc (Qd (.glob (.ref 80)))) Qj))) Xv))) (Qw (YK (Qw (Qd (.str "call")) (Qw (Q8 (Q1 K) (Qb (eOp 0) (Qb (Qc (Qd (.glob (.ref 92)))) Qj))) Xv))) Xv)))))) (Qo (Qx 1 (Qr Xg (eOp 1) (Qc (ZA (Qw (YK (Qw (Qd (.str "count")) (Qw (Q8 (Q1 K) (Qb (eOp 0) (Qb (Qc (Qd (.glob (.ref 104)))) Qj))) Xv))) (Qw (YK (Qw (Qd (.str "text")) (Qw (Q8 (Q1 K) (Qb (eOp 0) (Qb (Qc (Qd (.glob (.ref 116)))) Qj))) Xv))) Xv)))))) (Qo (Qx 2 (Ys [none, none, none, some 0] (Xu (Xe 1)) (ZD [1, 2]) (CZ (XU (eOp 2)) (CZ (XU (Qc (Q8 (Q1 K) (Qb (eOp 3) (Qb (Qc (Qd (.glob (.type "ValueError")))) Qj))))) KY)) (Xe 1))) (Qo (sIf (Xl eqI (Qc (Q8 YD (Qb (eOp 2) Qj))) (Qc (Qd (.int 1)))) (Qo (XS (ZA (Qw (Qd (.str "refused")) (Qw (Qr Xn (eOp 2) (Qc (Qd (.int 0)))) Xv)))) Qy) Qy) (Qo (XS (ZA (Qw (Qd (.str "refused")) (Qw (Qd (.str "otherwise")) Xv)))) Qy))))))
noncomputable def Jz (K : W.Frag) : List D → FOut := ZO 3 [0] (KS K)
theorem D0 (g : Gr (gd p w B mg mb false)) : Zy (gd p w B mg mb false) 1 (.ref 329) (Jz (gd p w B mg mb false).K) :=
 fnI g 329 3 [0] (f := KS (gd p w B mg mb false).K) (Qa (asg 1 (Q4 (vC (XQ (vC X9 (vC (cB g (.builtin "isinstance") (Xa g.ok) (aC (nB 0) (aC (Qh.of (gF g 44)) Qe))) Qv))) (vC (XQ (vC X9 (vC (cB g (.builtin "isinstance") (Xa g.ok) (aC (nB 0) (aC (Qh.of (gF g 56)) Qe))) Qv))) (vC (XQ (vC X9 (vC (cB g (.builtin "isinstance") (Xa g.ok) (aC (nB 0) (aC (Qh.of (gF g 68)) Qe))) Qv))) Qv))))) (Qa (asg 1 (Qk (nB 1) (Qh.of (Q4 (vC (XQ (vC X9 (vC (cB g (.builtin "isinstance") (Xa g.ok) (aC (nB 0) (aC (Qh.of (gF g 80)) Qe))) Qv))) (vC (XQ (vC X9 (vC (cB g (.builtin "isinstance") (Xa g.ok) (aC (nB 0) (aC (Qh.of (gF g 92)) Qe))) Qv))) Qv)))) Xc)) (Qa (asg 1 (Qk (nB 1) (Qh.of (Q4 (vC (XQ (vC X9 (vC (cB g (.builtin "isinstance") (Xa g.ok) (aC (nB 0) (aC (Qh.of (gF g 104)) Qe))) Qv))) (vC (XQ (vC X9 (vC (cB g (.builtin "isinstance") (Xa g.ok) (aC (nB 0) (aC (Qh.of (gF g 116)) Qe))) Qv))) Qv)))) Xc)) (Qa (Gb 2 [none, none, none, some 0] (Xw (nV 1)) (Hf 1 2) (Cs (XC (CH (LI (nB 2)) (CH (Y0 (Qh.of (cB g (.builtin "isinstance") (Xa g.ok) (aC (nB 3) (aC (Qh.of (gB g (.type "ValueError"))) Qe))))) B2)))) (nV 1)) (Qa (Xm (Jm (Qh.of (cB g (.builtin "len") Zu (aC (nB 2) Qe))) (Qh.of Ql) Ur) (Qa (Qs (Q4 (vC X9 (vC (sub (nB 2) (Qh.of Ql)) Qv)))) Qf) Qf) (Qa (Qs (Q4 (vC X9 (vC X9 Qv)))) Qf)))))) (Vp fun _ => by kernel_rfl)
noncomputable def Ws (K : W.Frag) : AEnv → Res Fl := (Qo (F8 K 31 3 (Qo (sIf (Xl eqI (eOp 0) (Qc (Qd (.int 0)))) (Qo (XS (QA (Xy K) (Qb (eOp 1) (Qb (eOp 2) Qj)))) Qy) Qy) (Qo (XS (QA (YS K) (Qb (eOp 1) (Qb (eOp 2) Qj)))) Qy)) (Qo (XS (QA (Jz K) (Qb (eOp 3) Qj))) Qy)) Qy)
noncomputable def YY (K : W.Frag) : List D → FOut := ZO 4 [0, 1, 2] (Ws K)
theorem O8 (g : Gr (gd p w B mg mb true)) : Zy (gd p w B mg mb true) 9 (.ref 384) (YY (gd p w B mg mb true).K) :=
 fnI g 384 4 [0, 1, 2] (f := Ws (gd p w B mg mb true).K) (Qa (LV g 31 3 (Qa (Xm (Jm (nB 0) (Qh.of Ql) Ur) (Qa (Qs (cF g 198 (Jo g) (aC (nB 1) (aC (nB 2) Qe)))) Qf) Qf) (Qa (Qs (cF g 205 (WF g) (aC (nB 1) (aC (nB 2) Qe)))) Qf)) (Qa (Qs (cF g.loud 329 (D0 g.loud) (aC (nB 3) Qe))) Qf)) Qf) (H5 fun _ _ _ => by kernel_rfl)
noncomputable def UN (K : W.Frag) : AEnv → Res Fl := (Qo (Qx 6 (Q8 YD (Qb (eOp 1) Qj))) (Qo (Qx 7 (Qr Xn (Qc (ZA (Qw (Q8 Yv (Qb (eOp 1) Qj)) (Qw (Qd .none) (Qw (ZQ (eOp 1) (Jf (Qc (Qd (.int 1)))) Zt) (Qw (Qr Xg (Qc (ZQ (eOp 1) Zt (Jf (Qc (Jq Jl (Qc (Qd (.int 1)))))))) (Qc (YK (Qw (Qd (.int 0)) Xv)))) (Qw (Q8 YT (Qb (Qc (Q8 XN (Qb (Qc (Qr Xg (eOp 6) (Qc (Qd (.int 1))))) Qj))) Qj)) Xv))))))) (Qc (Qr XB (eOp 5) (Qc (Qd (.int 5))))))) (Qo (Qx 8 (Qr XB (Qc (Qr ZC (eOp 5) (Qc (Qd (.int 5))))) (Qc (Qr Xg (Qc (Q8 YD (Qb (eOp 2) Qj))) (Qc (Qd (.int 1))))))) (Qo (Qx 9 (Qr Xg (Qc (Qr Xg (Qc (ZQ (eOp 2) Zt (Jf (eOp 8)))) (Qc (ZA (Qw (Xe 7) Xv))))) (Qc (ZQ (eOp 2) (Jf (eOp 8)) Zt)))) (Qo (Qx 10 (Qr Xn (Qc (ZA (Qw (Xe 9) (Qw (Xe 9) (Qw (Qr WL (Qc (ZA (Qw (Xe 1) Xv))) (Qc (Qd (.int 61)))) (Qw (Q8 YT (Qb (eOp 2) Qj)) (Qw (Qd .none) Xv))))))) (Qc (Qr XB (Qc (Qr ZC (eOp 5) (Qc (Qd (.int 50))))) (Qc (Qd (.int 5))))))) (Qo (Qx 11 (Qr Xn (Qc (ZA (Qw (Qr Xg (eOp 3) (Qc (ZA (Qw (Q8 YD (Qb (eOp 4) Qj)) Xv)))) (Qw (Qr WL (Qc (ZA (Qw (Qd (.int 0)) Xv))) (Qc (Qd (.int 41)))) (Qw (Qd .none) (Qw (Qr Xg (Qc (ZA (Qw (Jq Jl (Qc (Qd (.int 1)))) Xv))) (eOp 3)) (Qw (ZA (Qw (Qd (.bool true)) Xv)) Xv))))))) (Qc (Qr XB (eOp 5) (Qc (Qd (.int 5))))))) (Qo (XS (eBo .And (Qc (Qr eqI (Qc (QA (YY K) (Qb (Qc (Qd (.int 0))) (Qb (eOp 0) (Qb (eOp 10) Qj))))) (Qc (ZA (Qw (Qd (.str "refused")) (Qw (Qd (.str "row")) Xv)))))) (Qr eqI (Qc (QA (YY K) (Qb (Qc (Qd (.int 1))) (Qb (eOp 0) (Qb (eOp 11) Qj))))) (Qc (ZA (Qw (Qd (.str "refused")) (Qw (Qd (.str "call")) Xv))))))) Qy)))))))
noncomputable def JF (K : W.Frag) : List D → FOut := ZO 12 [0, 1, 2, 3, 4, 5] (UN K)
theorem V5 (g : Gr (gd p w B mg mb true)) : Zy (gd p w B mg mb true) 10 (.ref 396) (JF (gd p w B mg mb true).K) :=
 fnI g 396 12 [0, 1, 2, 3, 4, 5] (f := UN (gd p w B mg mb true).K) (Qa (asg 6 (cB g (.builtin "len") Zu (aC (nB 1) Qe))) (Qa (asg 7 (sub (Qh.of (Q4 (vC (cB g (.type "list") (YR rfl) (aC (nB 1) Qe)) (vC Zf (vC (Z4 (nB 1) (ZE (Qh.of Ql)) Z0) (vC (Qk (Qh.of (Z4 (nB 1) Z0 (ZE (Qh.of (XT (Qh.of Ql) JP))))) (Qh.of (XQ (vC Ql Qv))) Xc) (vC (cB g (.type "tuple") (JM rfl) (aC (Qh.of (cB g (.type "range") Zs (aC (Qh.of (Qk (nB 6) (Qh.of Ql) Xc)) Qe))) Qe)) Qv))))))) (Qh.of (Qk (nB 5) (Qh.of Ql) XZ)))) (Qa (asg 8 (Qk (Qh.of (Qk (nB 5) (Qh.of Ql) ZW)) (Qh.of (Qk (Qh.of (cB g (.builtin "len") Zu (aC (nB 2) Qe))) (Qh.of Ql) Xc)) XZ)) (Qa (asg 9 (Qk (Qh.of (Qk (Qh.of (Z4 (nB 2) Z0 (ZE (nB 8)))) (Qh.of (Q4 (vC (nV 7) Qv))) Xc)) (Qh.of (Z4 (nB 2) (ZE (nB 8)) Z0)) Xc)) (Qa (asg 10 (sub (Qh.of (Q4 (vC (nV 9) (vC (nV 9) (vC (Qk (Qh.of (Q4 (vC (nV 1) Qv))) (Qh.of Ql) Wf) (vC (cB g (.type "tuple") (JM rfl) (aC (nB 2) Qe)) (vC Zf Qv))))))) (Qh.of (Qk (Qh.of (Qk (nB 5) (Qh.of Ql) ZW)) (Qh.of Ql) XZ)))) (Qa (asg 11 (sub (Qh.of (Q4 (vC (Qk (nB 3) (Qh.of (Q4 (vC (cB g (.builtin "len") Zu (aC (nB 4) Qe)) Qv))) Xc) (vC (Qk (Qh.of (Q4 (vC Ql Qv))) (Qh.of Ql) Wf) (vC Zf (vC (Qk (Qh.of (Q4 (vC (XT (Qh.of Ql) JP) Qv))) (nB 3) Xc) (vC (Q4 (vC Yj Qv)) Qv))))))) (Qh.of (Qk (nB 5) (Qh.of Ql) XZ)))) (Qa (Qs (Js (Jy (Qh.of (B6 (Qh.of (cF g 384 (O8 g) (aC (Qh.of Ql) (aC (nB 0) (aC (nB 10) Qe))))) (Qh.of (Q4 (vC X9 (vC X9 Qv)))) Ur)) (J5 (B6 (Qh.of (cF g 384 (O8 g) (aC (Qh.of Ql) (aC (nB 0) (aC (nB 11) Qe))))) (Qh.of (Q4 (vC X9 (vC X9 Qv)))) Ur))))) Qf))))))) (LP fun _ _ _ _ _ _ => by kernel_rfl)
noncomputable def YI (K : W.Frag) : AEnv → Res Fl := (Qo (Qx 3 (Q8 Yv (Qb (eOp 2) Qj))) (Qo (YA (Xu (YK (Qw (Xe 2) (Qw (Jq IN (eOp 2)) (Qw (Xe 2) Xv))))) (QF 4) (Qo (Qx 5 (QA (Yq K) (Qb (Qc (Ys [none, none, some 1] (Xu (Xe 4)) (QF 1) Ux (QA (Yb K) (Qb (eOp 1) (Qb (eOp 2) Qj))))) Qj))) (Qo (sIf (eOr (Y6 (XU (Qc (QA (ZV K) (Qb (Qc (QA (Xy K) (Qb (eOp 0) (Qb (eOp 3) Qj)))) (Qb (eOp 5) Qj)))))) (eOr (Xl neI (eOp 3) (eOp 4)) Z3)) (Qo (XS (Qd (.bool false))) Qy) Qy) (Qo (XF (Qc (UV 3))) Qy)))) (Qo (XS (Qd (.bool true))) Qy)))
noncomputable def ZY (K : W.Frag) : List D → FOut := ZO 6 [0, 1, 2] (YI K)
theorem WP (g : Gr (gd p w B mg mb true)) : Zy (gd p w B mg mb true) 6 (.ref 401) (ZY (gd p w B mg mb true).K) :=
 fnI g 401 6 [0, 1, 2] (f := YI (gd p w B mg mb true).K) (Qa (asg 3 (cB g (.type "list") (YR rfl) (aC (nB 2) Qe))) (Qa (Ju (Xw (XQ (vC (nV 2) (vC (Ik (nB 2) (ZE (Qh.of (XT (Qh.of Ql) JP))) (fun _ => rfl)) (vC (nV 2) Qv))))) (tgN 4) (Qa (asg 5 (cF g 372 (WW g) (aC (Qh.of (lc [none, none, some 1] (Xw (nV 4)) (tgN 1) Y4 (cF g 348 (Vk g) (aC (nB 1) (aC (nB 2) Qe))))) Qe))) (Qa (Xm (XC (Xj (XI (Y0 (Qh.of (cF g 377 (Y2 g) (aC (Qh.of (cF g 198 (Jo g) (aC (nB 0) (aC (nB 3) Qe)))) (aC (nB 5) Qe)))))) (Xj (Jm (nB 3) (nB 4) Cw) Xx))) (Qa (Qs Yj) Qf) Qf) (Qa (exM (LX 3)) Qf)))) (Qa (Qs Yj) Qf))) (H5 fun _ _ _ => by kernel_rfl)
noncomputable def YU (K : W.Frag) : AEnv → Res Fl := (Qo (Qx 4 (Q8 Yv (Qb (eOp 1) Qj))) (Qo (sIf (eOr (Y6 (XU (Qc (QA (ZV K) (Qb (Qc (QA (YS K) (Qb (eOp 0) (Qb (eOp 4) Qj)))) (Qb (Qc (QA (Zm K) (Qb (eOp 2) Qj))) Qj)))))) (eOr (Xl neI (eOp 4) (eOp 1)) Z3)) (Qo (XS (Qd (.bool false))) Qy) Qy) (Qo (sIf (Xl eqI (eOp 1) (Qc (ZA Xv))) (Qo (XS (Qd (.bool true))) Qy) Qy) (Qo (Qx 5 (D4 4)) (Qo (sIf (Y6 (XU (Qc (QA (ZV K) (Qb (Qc (QA (YS K) (Qb (eOp 0) (Qb (eOp 4) Qj)))) (Qb (Qc (QA (Zm K) (Qb (Qc (ZQ (eOp 2) Zt (Jf (Qc (Qr OE (Qc (Q8 YD (Qb (eOp 2) Qj))) (eOp 3)))))) Qj))) Qj)))))) (Qo (XS (Qd (.bool false))) Qy) Qy) (Qo (XF (Qc (Za 4 (Xe 5)))) (Qo (XS (eBo .And (Qc (QA (ZV K) (Qb (Qc (QA (YS K) (Qb (eOp 0) (Qb (eOp 4) Qj)))) (Qb (Qc (QA (Zm K) (Qb (eOp 2) Qj))) Qj)))) (Qr eqI (eOp 4) (eOp 1)))) Qy)))))))
noncomputable def Yd (K : W.Frag) : List D → FOut := ZO 6 [0, 1, 2, 3] (YU K)
theorem Kf (g : Gr (gd p w B mg mb true)) : Zy (gd p w B mg mb true) 9 (.ref 408) (Yd (gd p w B mg mb true).K) :=
 fnI g 408 6 [0, 1, 2, 3] (f := YU (gd p w B mg mb true).K) (Qa (asg 4 (cB g (.type "list") (YR rfl) (aC (nB 1) Qe))) (Qa (Xm (XC (Xj (XI (Y0 (Qh.of (cF g 377 (Y2 g) (aC (Qh.of (cF g 205 (WF g) (aC (nB 0) (aC (nB 4) Qe)))) (aC (Qh.of (cF g 367 (Ja g) (aC (nB 2) Qe))) Qe)))))) (Xj (Jm (nB 4) (nB 1) Cw) Xx))) (Qa (Qs Yj) Qf) Qf) (Qa (Xm (Jm (nB 1) (Qh.of (Q4 Qv)) Ur) (Qa (Qs Yj) Qf) Qf) (Qa (Mc 5 (LA 4)) (Qa (Xm (XI (Y0 (Qh.of (cF g 377 (Y2 g) (aC (Qh.of (cF g 205 (WF g) (aC (nB 0) (aC (nB 4) Qe)))) (aC (Qh.of (cF g 367 (Ja g) (aC (Qh.of (Z4 (nB 2) Z0 (ZE (Qh.of (Qk (Qh.of (cB g (.builtin "len") Zu (aC (nB 2) Qe))) (nB 3) Bm))))) Qe))) Qe)))))) (Qa (Qs Yj) Qf) Qf) (Qa (exM (B1 4 (YH.of (nV 5)))) (Qa (Qs (Js (Jy (Qh.of (cF g 377 (Y2 g) (aC (Qh.of (cF g 205 (WF g) (aC (nB 0) (aC (nB 4) Qe)))) (aC (Qh.of (cF g 367 (Ja g) (aC (nB 2) Qe))) Qe)))) (J5 (B6 (nB 4) (nB 1) Ur))))) Qf))))))) (F1 fun _ _ _ _ => by kernel_rfl)
noncomputable def JA (K : W.Frag) : AEnv → Res Fl := (Qo (sIf (eOr (Y6 (XU (Qc (Q8 (Q1 K) (Qb (eOp 1) (Qb (Qc (Qd (.glob (.type "tuple")))) Qj)))))) (eOr (Xl eqI (Qc (Q8 YD (Qb (eOp 1) Qj))) (Qc (Qd (.int 0)))) Z3)) (Qo (Jw 68 (Qw (Qd (.str "no change")) Xv)) Qy) Qy) (Qo (Qx 2 (Jq Jl (Qc (Qd (.int 2))))) (Qo (YA (Xu (Xe 1)) (QF 3) (Qo (sIf (eOr (Y6 (XU (Qc (QA (ZR K) (Qb (eOp 3) Qj))))) (eOr (Y6 (JS leI leI (Qc (Qr Xg (eOp 2) (Qc (Qd (.int 2))))) (eOp 3) (Qc (Qr OE (eOp 0) (Qc (Qd (.int 2))))))) Z3)) (Qo (Jw 68 (Qw (Qd (.str "no place of a change")) Xv)) Qy) Qy) (Qo (Qx 2 (Xe 3)) Qy))) Qy)))
noncomputable def ZT (K : W.Frag) : List D → FOut := ZO 4 [0, 1] (JA K)
theorem Bo (g : Gr (gd p w B mg mb true)) : Zy (gd p w B mg mb true) 2 (.ref 212) (ZT (gd p w B mg mb true).K) :=
 fnI g 212 4 [0, 1] (f := JA (gd p w B mg mb true).K) (Qa (Xm (XC (Xj (XI (Y0 (Qh.of (cB g (.builtin "isinstance") (Xa g.ok) (aC (nB 1) (aC (Qh.of (gB g (.type "tuple"))) Qe)))))) (Xj (Jm (Qh.of (cB g (.builtin "len") Zu (aC (nB 1) Qe))) (Qh.of Ql) Ur) Xx))) (Qa (CN g 68 F.excBase_ValueError (vC X9 Qv)) Qf) Qf) (Qa (asg 2 (XT (Qh.of Ql) JP)) (Qa (Ju (Xw (nV 1)) (tgN 3) (Qa (Xm (XC (Xj (XI (Y0 (Qh.of (cF g 125 (UI g) (aC (nB 3) Qe))))) (Xj (XI (chT (Qh.of (Qk (nB 2) (Qh.of Ql) Xc)) (nB 3) (Qh.of (Qk (nB 0) (Qh.of Ql) Bm)) On On)) Xx))) (Qa (CN g 68 F.excBase_ValueError (vC X9 Qv)) Qf) Qf) (Qa (asg 2 (nV 3)) Qf))) Qf))) (U0 fun _ _ => by kernel_rfl)
noncomputable def UT (K : W.Frag) : AEnv → Res Fl := (Qo (XF (Qc (QA (Jb K) (Qb (eOp 1) Qj)))) (Qo (sIf (eOr (Y6 (XU (Qc (Q8 (Q1 K) (Qb (eOp 2) (Qb (Qc (Qd (.glob (.type "list")))) Qj)))))) (eOr (Xl gtI (Qc (Q8 YD (Qb (eOp 2) Qj))) (Qc (Qd (.int 30)))) Z3)) (Qo (Jw 80 (Qw (Qd (.str "inner changes are a list of 0 to 30")) Xv)) Qy) Qy) (Qo (sIf (eOr (Y6 (XU (Qc (Q8 (Q1 K) (Qb (eOp 3) (Qb (Qc (Qd (.glob (.type "list")))) Qj)))))) (eOr (Y6 (JS leI leI (Qc (Qd (.int 1))) (Qc (Q8 YD (Qb (eOp 3) Qj))) (Qc (Qd (.int 4))))) Z3)) (Qo (Jw 80 (Qw (Qd (.str "calls are a list of 1 to 4")) Xv)) Qy) Qy) (Qo (YA (Xu (Qr Xg (eOp 2) (eOp 3))) (QF 4) (Qo (XF (Qc (QA (ZT K) (Qb (eOp 1) (Qb (eOp 4) Qj))))) Qy)) Qy))))
noncomputable def UP (K : W.Frag) : List (Str × (AEnv → Res T)) := [("bells", (Xe 1)), ("steps", (Q8 Yv (Qb (eOp 2) Qj))), ("ways", (Q8 Yv (Qb (eOp 3) Qj)))]
noncomputable def U5 (K : W.Frag) : Addr → List D → IOut := DN 5 [0, 1, 2, 3] 0 (UT K) (UP K)
theorem VV (g : Gr (gd p w B mg mb true)) : OU (gd p w B mg mb true) 3 (.ref 233) 285 ["bells", "steps", "ways"] (U5 (gd p w B mg mb true).K) :=
 LR g 233 5 [0, 1, 2, 3] 0 285 "self" (f := UT (gd p w B mg mb true).K) (ts := UP (gd p w B mg mb true).K) (.cons (UW (Qh.of (cF g 132 (Kr g) (aC (nB 1) Qe))) (fun _ => rfl)) (.cons (Xm (XC (Xj (XI (Y0 (Qh.of (cB g (.builtin "isinstance") (Xa g.ok) (aC (nB 2) (aC (Qh.of (gB g (.type "list"))) Qe)))))) (Xj (Jm (Qh.of (cB g (.builtin "len") Zu (aC (nB 2) Qe))) (Qh.of (gI g 30 473)) DG) Xx))) (Qa (CN g 80 F.excBase_ValueError (vC X9 Qv)) Qf) Qf) (.cons (Xm (XC (Xj (XI (Y0 (Qh.of (cB g (.builtin "isinstance") (Xa g.ok) (aC (nB 3) (aC (Qh.of (gB g (.type "list"))) Qe)))))) (Xj (XI (chT (Qh.of Ql) (Qh.of (cB g (.builtin "len") Zu (aC (nB 3) Qe))) (Qh.of (gI g 4 475)) On On)) Xx))) (Qa (CN g 80 F.excBase_ValueError (vC X9 Qv)) Qf) Qf) (.cons (Ju (Xw (Qk (nB 2) (nB 3) Xc)) (tgN 4) (Qa (UW (Qh.of (cF g 212 (Bo g) (aC (nB 1) (aC (nB 4) Qe)))) (fun _ => rfl)) Qf)) .nil)))) (tC (nV 1) (tC (cB g (.type "list") (YR rfl) (aC (nB 2) Qe)) (tC (cB g (.type "list") (YR rfl) (aC (nB 3) Qe)) .nil))) (F1 fun _ _ _ _ => by kernel_rfl)
noncomputable def HT (K : W.Frag) : AEnv → Res Fl := (Qo (Qx 1 (QA (Xb K) (Qb (eOp 0) (Qb (Qc (Qd (.int 0))) Qj)))) (Qo (Qx 2 (Qr Xg (Qc (Qd (.int 3))) (Qc (Qr Xn (Qc (ZA (Qw (Qd (.int 0)) (Qw (Qd (.int 1)) (Qw (Qr XB (Qc (Qr ZC (eOp 1) (Qc (Qd (.int 4))))) (Qc (Qd (.int 10)))) (Qw (Qr XB (Qc (Qr ZC (eOp 1) (Qc (Qd (.int 4))))) (Qc (Qd (.int 10)))) Xv)))))) (Qc (Qr XB (eOp 1) (Qc (Qd (.int 4))))))))) (Qo (Oe [3, 4] (QA (Y5 K) (Qb (eOp 0) (Qb (Qc (Qd (.int 1))) (Qb (eOp 2) Qj))))) (Qo (Qx 5 (Qr XB (Qc (QA (Xb K) (Qb (eOp 0) (Qb (Qc (Qd (.int 21))) Qj)))) (Qc (Qd (.int 8))))) (Qo (Qx 3 (ZQ (eOp 3) Zt (Jf (Qc (Qr Xn (Qc (ZA (Qw (Qd (.int 7)) (Qw (Qd (.int 1)) (Qw (Qd (.int 30)) (Qw (Qd (.int 7)) (Qw (Qd (.int 7)) (Qw (Qd (.int 7)) (Qw (Qd (.int 7)) (Qw (Qd (.int 7)) Xv)))))))))) (eOp 5)))))) (Qo (Qx 6 (Ef 285 ["bells", "steps", "ways"] (U5 K) (Qb (eOp 2) (Qb (Qc (Q8 Yv (Qb (Qc (Xe 3)) Qj))) (Qb (Qc (Q8 Yv (Qb (Qc (Xe 4)) Qj))) Qj))))) (Qo (Qx 7 (QA (JH K) (Qb (eOp 0) (Qb (Qc (Qd (.int 9))) (Qb (Qc (Qr Xg (Qc (Q8 YD (Qb (eOp 3) Qj))) (Qc (Qd (.int 1))))) (Qb (Qc (Q8 YD (Qb (eOp 4) Qj))) Qj)))))) (Qo (sIf (Xl eqI (eOp 5) (Qc (Qd (.int 1)))) (Qo (Qx 8 (Qr ZC (Qc (QA (Xb K) (Qb (eOp 0) (Qb (Qc (Qd (.int 21))) Qj)))) (Qc (Qd (.int 8))))) (Qo (Qx 7 (Ys [none, none, some 4, some 8] (Xu (Q8 XN (Qb (Qc (Qr XB (eOp 8) (Qc (Qd (.int 41))))) Qj))) (QF 1) Ux (Qr XB (Qc (Qr ZC (Qc (QA (Xq K) (Qb (eOp 3) (Qb (eOp 1) Qj)))) (Qc (Qd (.int 9))))) (Qc (Q8 YD (Qb (eOp 2) Qj)))))) Qy)) Qy) (Qo (Oe [9, 10] (QA (JK K) (Qb (Qc (Xe 2)) (Qb (Qc (Xe 3)) (Qb (Qc (Xe 4)) (Qb (Qc (Xe 7)) Qj)))))) (Qo (Qx 11 (ZA Xv)) (Qo (YA (Xu (Xe 10)) (QF 12) (Qo (Qx 11 (Qr Xg (eOp 11) (eOp 12))) Qy)) (Qo (Qx 13 (QA (Zm K) (Qb (eOp 11) Qj))) (Qo (sIf (Y6 (XU (Qc (QA (Yd K) (Qb (eOp 6) (Qb (eOp 7) (Qb (eOp 11) (Qb (Qc (Qr Xg (Qc (Q8 YD (Qb (eOp 3) Qj))) (Qc (Qd (.int 1))))) Qj)))))))) (Qo (XS (Qd (.bool false))) Qy) Qy) (Qo (Qx 14 (QA (Xy K) (Qb (eOp 6) (Qb (Qc (ZQ (eOp 9) Zt (Jf (Qc (Jq Jl (Qc (Qd (.int 1)))))))) Qj)))) (Qo (sIf (eOr (Xl neI (Qc (Qr isI (eOp 14) (Qc (Qd .none)))) (Qc (Qr isI (eOp 13) (Qc (Qd .none))))) (eOr (Y6 (XU (Qc (QA (ZV K) (Qb (eOp 14) (Qb (Qc (QA (Yq K) (Qb (eOp 10) Qj))) Qj)))))) Z3)) (Qo (XS (Qd (.bool false))) Qy) Qy) (Qo (Qx 15 (QA (Wp K) (Qb (eOp 0) (Qb (eOp 9) (Qb (eOp 10) (Qb (eOp 2) Qj)))))) (Qo (sIf (eOr (Y6 (XU (Qc (QA (ZY K) (Qb (eOp 6) (Qb (eOp 3) (Qb (eOp 15) Qj))))))) (eOr (Y6 (XU (Qc (QA (ZV K) (Qb (Qc (QA (YS K) (Qb (eOp 6) (Qb (Qc (Q8 Yv (Qb (Qc (Xe 7)) Qj))) Qj)))) (Qb (eOp 13) Qj)))))) Z3)) (Qo (XS (Qd (.bool false))) Qy) Qy) (Qo (XS (QA (JF K) (Qb (eOp 6) (Qb (Qc (Qr Xn (eOp 9) (Qc (Qd (.int 0))))) (Qb (eOp 15) (Qb (eOp 7) (Qb (eOp 4) (Qb (Qc (QA (Xq K) (Qb (Qc (QA (Xb K) (Qb (eOp 0) (Qb (Qc (Qd (.int 20))) Qj)))) (Qb (Qc (Qd (.int 12))) Qj)))) Qj)))))))) Qy))))))))))))))))))
noncomputable def El (K : W.Frag) : List D → FOut := ZO 16 [0] (HT K)
theorem Lm (g : Gr (gd p w B mg mb true)) : Zy (gd p w B mg mb true) 11 (.ref 413) (El (gd p w B mg mb true).K) :=
 fnI g 413 16 [0] (f := HT (gd p w B mg mb true).K) (Qa (asg 1 (cF g 296 (Zd g) (aC (nB 0) (aC (Qh.of Ql) Qe)))) (Qa (asg 2 (Qk (Qh.of Ql) (Qh.of (sub (Qh.of (Q4 (vC Ql (vC Ql (vC (Qk (Qh.of (Qk (nB 1) (Qh.of Ql) ZW)) (Qh.of Ql) XZ) (vC (Qk (Qh.of (Qk (nB 1) (Qh.of Ql) ZW)) (Qh.of Ql) XZ) Qv)))))) (Qh.of (Qk (nB 1) (Qh.of Ql) XZ)))) Xc)) (Qa (LM (nmC 3 (nmC 4 nmN)) (cF g 341 (C3 g) (aC (nB 0) (aC (Qh.of Ql) (aC (nB 2) Qe))))) (Qa (asg 5 (Qk (Qh.of (cF g 296 (Zd g) (aC (nB 0) (aC (Qh.of Ql) Qe)))) (Qh.of Ql) XZ)) (Qa (asg 3 (Z4 (nB 3) Z0 (ZE (Qh.of (sub (Qh.of (Q4 (vC Ql (vC Ql (vC Ql (vC Ql (vC Ql (vC Ql (vC Ql (vC Ql Qv)))))))))) (nB 5)))))) (Qa (asg 6 (mak g 285 233 (VV g) (aC (nB 2) (aC (Qh.of (cB g (.type "list") (YR rfl) (aC (Qh.of (nV 3)) Qe))) (aC (Qh.of (cB g (.type "list") (YR rfl) (aC (Qh.of (nV 4)) Qe))) Qe))))) (Qa (asg 7 (cF g 360 (Dk g) (aC (nB 0) (aC (Qh.of Ql) (aC (Qh.of (Qk (Qh.of (cB g (.builtin "len") Zu (aC (nB 3) Qe))) (Qh.of Ql) Xc)) (aC (Qh.of (cB g (.builtin "len") Zu (aC (nB 4) Qe))) Qe)))))) (Qa (Xm (Jm (nB 5) (Qh.of Ql) Ur) (Qa (asg 8 (Qk (Qh.of (cF g 296 (Zd g) (aC (nB 0) (aC (Qh.of Ql) Qe)))) (Qh.of Ql) ZW)) (Qa (Gb 7 [none, none, some 4, some 8] (Xw (cB g (.type "range") Zs (aC (Qh.of (Qk (nB 8) (Qh.of Ql) XZ)) Qe))) (tgN 1) Y4 (Qk (Qh.of (Qk (Qh.of (cF g 303 (Yc g) (aC (nB 3) (aC (nB 1) Qe)))) (Qh.of Ql) ZW)) (Qh.of (cB g (.builtin "len") Zu (aC (nB 2) Qe))) XZ)) Qf)) Qf) (Qa (LM (nmC 9 (nmC 10 nmN)) (cF g 355 (C1 g) (aC (Qh.of (nV 2)) (aC (Qh.of (nV 3)) (aC (Qh.of (nV 4)) (aC (Qh.of (nV 7)) Qe)))))) (Qa (asg 11 (Q4 Qv)) (Qa (Ju (Xw (nV 10)) (tgN 12) (Qa (asg 11 (Qk (nB 11) (nB 12) Xc)) Qf)) (Qa (asg 13 (cF g 367 (Ja g) (aC (nB 11) Qe))) (Qa (Xm (XI (Y0 (Qh.of (cF g 408 (Kf g) (aC (nB 6) (aC (nB 7) (aC (nB 11) (aC (Qh.of (Qk (Qh.of (cB g (.builtin "len") Zu (aC (nB 3) Qe))) (Qh.of Ql) Xc)) Qe)))))))) (Qa (Qs Yj) Qf) Qf) (Qa (asg 14 (cF g 198 (Jo g) (aC (nB 6) (aC (Qh.of (Z4 (nB 9) Z0 (ZE (Qh.of (XT (Qh.of Ql) JP))))) Qe)))) (Qa (Xm (XC (Xj (Jm (Qh.of (B6 (nB 14) (Qh.of Zf) Cm)) (Qh.of (B6 (nB 13) (Qh.of Zf) Cm)) Cw) (Xj (XI (Y0 (Qh.of (cF g 377 (Y2 g) (aC (nB 14) (aC (Qh.of (cF g 372 (WW g) (aC (nB 10) Qe))) Qe)))))) Xx))) (Qa (Qs Yj) Qf) Qf) (Qa (asg 15 (cF g 389 (Eg g) (aC (nB 0) (aC (nB 9) (aC (nB 10) (aC (nB 2) Qe)))))) (Qa (Xm (XC (Xj (XI (Y0 (Qh.of (cF g 401 (WP g) (aC (nB 6) (aC (nB 3) (aC (nB 15) Qe))))))) (Xj (XI (Y0 (Qh.of (cF g 377 (Y2 g) (aC (Qh.of (cF g 205 (WF g) (aC (nB 6) (aC (Qh.of (cB g (.type "list") (YR rfl) (aC (Qh.of (nV 7)) Qe))) Qe)))) (aC (nB 13) Qe)))))) Xx))) (Qa (Qs Yj) Qf) Qf) (Qa (Qs (cF g 396 (V5 g) (aC (nB 6) (aC (Qh.of (sub (nB 9) (Qh.of Ql))) (aC (nB 15) (aC (nB 7) (aC (nB 4) (aC (Qh.of (cF g 303 (Yc g) (aC (Qh.of (cF g 296 (Zd g) (aC (nB 0) (aC (Qh.of Ql) Qe)))) (aC (Qh.of Ql) Qe)))) Qe)))))))) Qf)))))))))))))))))) (Vp fun _ => by kernel_rfl)
end Mine
end

section
set_option Elab.async false
set_option maxRecDepth 100000
namespace Mine
open PySem PySem.W PyProof.Rows
theorem law10_enter (hlaw : ∀ (P : Params) (ns : List Int), ns.length ≤ 63 → El (hd.heap_1 P) [.list (ns.map .int)] = .ok (.sh (.bool true))) : PySem.Challenge.rw_uf010040_10.Holds := by
 refine hd ?_
 intro w s₀ s₁ mg mb G Y a o pm cd doc dV kV ho hd' hcd hD hmg hg args vals as hpre hlay hrd hwl hlo
 have KX : (hd.heap_1 w.params).In s₁.heap := kIn_of Y
 have T := G.T
 have g : Gr (gd PySem.Challenge.rw_uf010040_10.row.toRowW.prog w s₁.heap mg mb true) := ⟨⟨T.g, T.b, T.nolimit, KX⟩, ⟨_, _, topRead_of T⟩, T.builtins⟩
 have e : mg "law" = some (.ref 413) := mg_of KX T.g (by kernel_rfl)
 have ea : a = 413 := by
  have h : mg "law" = some (.ref a) := hmg
  rw [e] at h
  cases h; rfl
 subst ea
 exact Iy (l := PySem.Challenge.rw_uf010040_10) (Lm g) (by decide) hg (n := 63) rfl rfl hpre hrd hwl (hlaw w.params)
end Mine
end

section
set_option Elab.async false
set_option maxRecDepth 100000
set_option maxHeartbeats 4000000
set_option linter.unusedSimpArgs false
set_option linter.unusedVariables false
namespace Mine
open PySem PySem.W
theorem YJ (K : Frag) (d : D) (h : By d = true) : ZR K [d] = .ok (.sh (.bool (isW d))) := by
 cases d with
 | range _ _ _ => cases h
 | exc _ => cases h
 | glob _ => cases h
 | dict _ _ => cases h
 | obj _ _ _ => cases h
 | none => kernel_rfl
 | bool b => kernel_rfl
 | int i => kernel_rfl
 | str x => kernel_rfl
 | tup ds => kernel_rfl
 | list ds => kernel_rfl
theorem Ut (K : Frag) (d : D) (h : By d = true) : Q1 K [d, .glob (.type "tuple")] = some (.sh (.bool (match d with | .tup _ => true | _ => false))) := by
 cases d with
 | range _ _ _ => cases h
 | exc _ => cases h
 | glob _ => cases h
 | dict _ _ => cases h
 | obj _ _ _ => cases h
 | none => kernel_rfl
 | bool b => kernel_rfl
 | int i => kernel_rfl
 | str x => kernel_rfl
 | tup ds => kernel_rfl
 | list ds => kernel_rfl
theorem OW (K : Frag) (i : Int) : Q1 K [.int i, .glob (.type "int")] = some (.sh (.bool true)) := by kernel_rfl
theorem Kw (K : Frag) (i : Int) : Q1 K [.int i, .glob (.type "bool")] = some (.sh (.bool false)) := by kernel_rfl
theorem Wt (K : Frag) (n : Int) (h3 : 3 ≤ n) (h12 : n ≤ 12) : Jb K [.int n] = .ok (.sh .none) := by
 have e : ZR K [.int n] = .ok (.sh (.bool true)) := YJ K (.int n) rfl
 have e1 := WE h3
 have e2 := WE h12
 unfold Jb Wa
 refine' QU [some (.sh (.int n))] rfl rfl ?_ U8
 repeat' (first|(with_reducible first|assumption|exact QO|exact QH|exact Qt|apply Qp|exact Xk|exact Xi|exact Qz|apply Qn|apply Xf|apply Qu|apply QC|apply QP|apply Xp|apply XR|apply ZB|apply Qq|apply Q2|apply Md|apply Mj|apply Ms|apply MB|apply ME|apply MF|exact Mt|apply My|apply MC|apply MM|apply MQ)|exact Q6 rfl|exact (rfl : Qg _ = true)|exact (rfl : (_ : Option _) = some _)|decide)
theorem Bx (K : Frag) (d : D) (h : By d = true) (ht : ∀ ds, d ≠ .tup ds) : Ym K [d] = .ok (.sh (.bool false)) := by
 have e := Ut K d h
 have e' : Q1 K [d, .glob (.type "tuple")] = some (.sh (.bool false)) := by
  rw [e]
  cases d <;> first | rfl | exact absurd rfl (ht _)
 clear e
 unfold Ym WK
 refine' QU [some (.sh d)] rfl rfl ?_ Q0
 repeat' (first|(with_reducible first|assumption|exact QO|exact QH|exact Qt|apply Qp|exact QL|exact Q5|apply QE|apply Qu|apply QK|apply QP|apply Xp|apply XR|apply Qq|apply Q2|apply QS|apply Md|apply Mi|apply Ml|apply Ms|apply MR|exact Mu|exact Mx|exact MN|apply MP)|exact (rfl : Qg _ = true)|exact (rfl : (_ : Option _) = some _)|decide)
theorem CP (K : Frag) (ds : List D) (hl : ds.length ≤ 1000000) (h : ¬ (3 ≤ ds.length ∧ ds.length ≤ 12)) : Ym K [.tup ds] = .ok (.sh (.bool false)) := by
 have e' : Q1 K [.tup ds, .glob (.type "tuple")] = some (.sh (.bool true)) := Ut K (.tup ds) rfl
 have e2 := U3 hl
 unfold Ym WK
 refine' QU [some (.sh (.tup ds))] rfl rfl ?_ Q0
 by_cases h3 : 3 ≤ ds.length
 ·have h12 : ¬ ((ds.length : Int) ≤ 12) := fun q => h ⟨h3, by exact Int.ofNat_le.mp q⟩
  have h3' : (3 : Int) ≤ ds.length := by exact Int.ofNat_le.mpr h3
  have e3 := WE h3'
  have e4 := DS h12
  repeat' (first|(with_reducible first|assumption|exact QO|exact QH|exact Qt|apply Qp|exact Xk|exact QL|exact Q5|apply Qn|apply QE|apply Qu|apply QK|apply QP|apply Xp|apply XR|apply ZB|apply Qq|apply Q2|apply QS|apply Md|apply Mi|apply Ml|apply Ms|apply MB|apply ME|apply MF|apply MR|exact Mt|exact Mu|exact Mx|apply My|apply MC|exact MD|exact MN|apply MP)|exact (rfl : Qg _ = true)|exact (rfl : (_ : Option _) = some _)|decide)
 ·have h3' : ¬ ((3 : Int) ≤ ds.length) := by (exact_mod_cast h3)
  have e3 := DS h3'
  repeat' (first|(with_reducible first|assumption|exact QO|exact QH|exact Qt|apply Qp|exact Xk|exact QL|exact Q5|apply Qn|apply QE|apply Qu|apply QK|apply QP|apply Xp|apply XR|apply ZB|apply Qq|apply Q2|apply QS|apply Md|apply Mi|apply Ml|apply Ms|apply MB|apply ME|apply MF|apply MR|exact Mt|exact Mu|exact Mx|apply My|apply MC|exact MD|exact MN|apply MP)|exact (rfl : Qg _ = true)|exact (rfl : (_ : Option _) = some _)|decide)
theorem E4 (K : Frag) (ds : List D) (hl : ds.length ≤ 1000000) (h : ∀ d ∈ ds, By d = true) : Yl (QF 1) Ux (QA (ZR K) (Qb (eOp 1) Qj)) [none, none] ds [] = some (ds.map fun d => .bool (isW d)) := by
 refine Y1 ds (fun d hd => ?_) hl
 have e := YJ K d (h d hd)
 refine ⟨[none, some (.sh d)], .sh (.bool (isW d)), [none, some (.sh d)], rfl, ?_, rfl⟩
 repeat' (first|(with_reducible first|assumption|exact Qt|apply Qp|apply Qn|apply QC|apply Mj)|exact Q6 rfl|exact (rfl : Qg _ = true)|exact (rfl : (_ : Option _) = some _)|decide)
theorem Dn (g : D → Bool) (ds : List D) : W0 (ds.map fun d => .bool (g d)) = some (ds.map g) := by
 have := DV (ds.map g)
 rwa [List.map_map] at this
theorem IF (ns : List Int) : ∀ d ∈ iL ns, By d = true := fun d hd => by
 obtain ⟨i, _, rfl⟩ := List.mem_map.mp hd; rfl
theorem IZ (ns : List Int) : (iL ns).all isW = true := List.all_eq_true.mpr fun d hd => by
 obtain ⟨i, _, rfl⟩ := List.mem_map.mp hd; rfl
theorem Q3 (ns : List Int) : (iL ns).length = ns.length := by simp [iL]
theorem Km (K : Frag) (ns : List Int) (h3 : 3 ≤ ns.length) (h12 : ns.length ≤ 12) : Ym K [.tup (iL ns)] = .ok (.sh (.bool (eqB (WR ns) (rng ns.length)))) := by
 have e' : Q1 K [.tup (iL ns), .glob (.type "tuple")] = some (.sh (.bool true)) := Ut K (.tup (iL ns)) rfl
 have hl : (iL ns).length ≤ 1000000 := by rw [Q3]; exact omB h12
 have cw := E4 K (iL ns) hl (IF ns)
 have e2 := U3 hl
 rw [Q3] at e2
 have e3 := WE (show (3 : Int) ≤ ns.length by exact Int.ofNat_le.mpr h3)
 have e4 := WE (show (ns.length : Int) ≤ 12 by exact Int.ofNat_le.mpr h12)
 have hw' : ((iL ns).map isW).all id = true := by rw [List.all_map]; exact IZ ns
 have e5 : Gw [.list ((iL ns).map fun d => .bool (isW d))] = some (.sh (.bool true)) := by rw [IP (Dn _ _), ← hw']
 have e6 : VF [.tup (iL ns)] = some (.ow true (.list (iL (WR ns)))) := F6 (Cq ns) (by exact Nat.lt_of_le_of_lt h12 (by decide))
 have e7 : Yv [.range 0 ns.length 1] = some (.ow true (.list (iL (rng ns.length)))) := by rw [FS (JZ _ (by exact omB h12)), Wk]
 have e8 := Oq (WR ns) (rng ns.length)
 unfold Ym WK
 refine' QU [some (.sh (.tup (iL ns)))] rfl rfl ?_ Q0
 repeat' (first|(with_reducible first|assumption|exact QO|exact Zl|exact QH|exact Qt|apply Qp|exact Zz|apply X8|exact Xk|exact QX|exact Xi|exact Qz|exact Q5|apply Qn|apply QE|apply QB|apply XG|apply Qu|apply QK|apply QP|apply Xp|apply XR|apply ZB|apply QG|apply XM|apply Qq|apply Q2|apply QS|apply Md|apply Mh|apply Mg|apply Mi|apply Ml|apply Mm|apply Ms|apply MB|apply ME|apply MF|apply MJ|apply MR|exact Mt|apply My|apply MC|apply MM|exact MN|apply MQ)|exact (rfl : Qg _ = true)|exact QN rfl|exact (rfl : (_ : Option _) = some _)|decide)
structure Row (n : Nat) (ns : List Int) : Prop where
 perm : ns.Perm (rng n)
 h3 : 3 ≤ n
 h12 : n ≤ 12
theorem Row.len {n : Nat} {ns : List Int} (r : Row n ns) : ns.length = n := by rw [r.perm.length_eq, XE]
theorem KU (K : Frag) {n : Nat} {ns : List Int} (r : Row n ns) : Ym K [.tup (iL ns)] = .ok (.sh (.bool true)) := by
 rw [Km K ns (by rw [r.len]; exact r.h3) (by rw [r.len]; exact r.h12), r.len, UX.mpr (Cy.mpr r.perm)]
theorem Oz (K : Frag) (ns : List Int) (h3 : 3 ≤ ns.length) (h12 : ns.length ≤ 12) (h : ¬ ns.Perm (rng ns.length)) : Ym K [.tup (iL ns)] = .ok (.sh (.bool false)) := by
 rw [Km K ns h3 h12, Kd.mpr fun q => h (Cy.mp q)]
theorem O0 (n : Nat) (h : n ≤ 1000000) : YT [.range 0 n 1] = some (.sh (.tup (iL (rng n)))) := by rw [Hu (JZ _ h), Wk]
theorem GV (n : Nat) (h : n ≤ 1000000) : Yv [.range 0 n 1] = some (.ow true (.list (iL (rng n)))) := by rw [FS (JZ _ h), Wk]
theorem OX (n : Nat) (h : n ≤ 1000000) : X0 (.range 0 n 1) = some (iL (rng n)) := by rw [DH (JZ _ h), Wk]
theorem Eu (K : Frag) (n : Nat) (h3 : 3 ≤ n) (h12 : n ≤ 12) : K3 K [.int n] = .ok (.sh (.tup (iL (rng n)))) := by
 have h := Wt K n (by exact Int.ofNat_le.mpr h3) (by exact Int.ofNat_le.mpr h12)
 have e := O0 n (by exact omB h12)
 unfold K3 Bg
 refine' QU [some (.sh (.int n))] rfl rfl ?_ Q0
 repeat' (first|(with_reducible first|assumption|exact QO|exact QH|exact Qt|apply Qp|exact QX|apply Qn|apply QB|apply Qu|apply QK|apply QC|apply Qq|apply QS|apply Xh|apply Md|apply Mi|apply Mj|apply Ml|apply Mm|apply MR|apply MT|apply MM|exact MN)|exact Q6 rfl|exact (rfl : Qg _ = true)|exact (rfl : (_ : Option _) = some _)|decide)
theorem FW {n : Nat} {i : Int} : i ∈ rng n ↔ 0 ≤ i ∧ i < n := by
 unfold rng
 rw [List.mem_map]
 constructor
 ·rintro ⟨k, hk, rfl⟩
  have := List.mem_range.mp hk
  (simpa using this)
 ·rintro ⟨h0, h1⟩
  exact ⟨i.toNat, List.mem_range.mpr (by omega), by exact Int.toNat_of_nonneg (by assumption)⟩
theorem O3 {a : List Int} {j : Nat} (h : j < a.length) : (iL a)[j]? = some (.int (a.getD j 0)) := by
 unfold iL
 rw [List.getElem?_map, List.getElem?_eq_getElem h, List.getD_eq_getElem?_getD, List.getElem?_eq_getElem h]; rfl
theorem Jn {ds : List D} (h : ds.length ≤ 1000000) : YT [.list ds] = some (.sh (.tup ds)) := G3 h
theorem Row.nodup {n : Nat} {a : List Int} (r : Row n a) : a.Nodup := by
 rw [r.perm.nodup_iff]
 unfold rng List.Nodup
 rw [List.pairwise_map]
 exact (List.pairwise_lt_range (n := n)).imp fun h => by exact Int.ne_of_lt (Int.ofNat_lt.mpr h)
theorem HJ (f : List Int) (j : Nat) (v : Int) : (iL f).set j (.int v) = iL (f.set j v) := by unfold iL; rw [List.map_set]
theorem X4 (K : Frag) (ns : List Int) (k : Nat) (hl : ns.length ≤ 63) : Xb K [.list (iL ns), .int k] = .ok (.sh (.int (ns.getD k 0))) := by
 have e1 := XA (ds := iL ns) (by rw [Q3]; exact omB hl)
 rw [Q3] at e1
 unfold Xb KQ
 refine' QU [some (.sh (.list (iL ns))), some (.sh (.int k))] rfl rfl ?_ Q0
 by_cases h : k < ns.length
 ·have e2 := H9 (a := (k : Int)) (b := ns.length) (by exact Int.ofNat_lt.mpr h)
  have e3 : Xn (.list (iL ns)) (.int k) = some (.sh (.int (ns.getD k 0))) := Z2 (by exact Int.ofNat_nonneg _) (by exact omI h (omB hl)) (by rw [Int.toNat_natCast]; exact O3 h)
  repeat' (first|(with_reducible first|assumption|exact QO|exact QH|exact Qt|apply Qp|exact QL|exact Qz|apply Qn|apply ZH|apply Zn|apply Xf|apply Qu|apply QK|apply Qq|apply Q2|apply QS|apply Md|apply Mg|apply Mi|apply Mz|apply MR|apply MM|exact MN|apply MP|apply MQ)|exact (rfl : Qg _ = true)|exact (rfl : (_ : Option _) = some _)|decide)
 ·have e2 := HI (a := (k : Int)) (b := ns.length) (by (exact_mod_cast h))
  rw [show ns.getD k 0 = 0 by rw [List.getD_eq_getElem?_getD, List.getElem?_eq_none (by exact Nat.le_of_not_lt h)]; rfl]
  repeat' (first|(with_reducible first|assumption|exact QO|exact QH|exact Qt|apply Qp|exact QL|exact Qz|apply Qn|apply ZH|apply Zn|apply Xf|apply Qu|apply QK|apply Qq|apply Q2|apply QS|apply Md|apply Mg|apply Mi|apply Mz|apply MR|apply MM|exact MN|apply MP|apply MQ)|exact (rfl : Qg _ = true)|exact (rfl : (_ : Option _) = some _)|decide)
noncomputable def mix (c k : Int) : Int := (c * 48271 + 7919 * k * k + 104729 * k + 12345).fmod 2147483647
theorem Vi (a : Int) {b : Int} (h : 0 < b) : 0 ≤ a.fmod b := by rw [Int.fmod_eq_emod_of_nonneg _ (by exact Int.le_of_lt h)]; exact Int.emod_nonneg _ (by exact Int.ne_of_gt h)
theorem FQ (a : Int) {b : Int} (h : 0 < b) : a.fmod b < b := by rw [Int.fmod_eq_emod_of_nonneg _ (by exact Int.le_of_lt h)]; exact Int.emod_lt_of_pos _ h
theorem Zv (K : Frag) (c k : Int) (hk : small k = true) : Xq K [.int c, .int k] = .ok (.sh (.int (mix c k))) := by
 have e1 : WL (.int (7919 * k)) (.int k) = some (.sh (.int (7919 * k * k))) := KV (by rw [hk, Bool.or_true])
 have e2 : WL (.int 7919) (.int k) = some (.sh (.int (7919 * k))) := KV (by rw [hk, Bool.or_true])
 have e3 : WL (.int 104729) (.int k) = some (.sh (.int (104729 * k))) := KV (by rw [hk, Bool.or_true])
 have e4 : WL (.int c) (.int 48271) = some (.sh (.int (c * 48271))) := KV (by rw [Y8 (b := 48271) (by decide), Bool.or_true])
 unfold Xq OO
 refine' QU [some (.sh (.int c)), some (.sh (.int k))] rfl rfl ?_ Q0
 unfold mix
 repeat' (first|(with_reducible first|assumption|exact QO|exact X3|exact QH|exact Xk|apply Uf|apply XD|apply XG|apply Xf|apply Qu|apply Qq|apply QS|apply QW|apply KV|apply Md|apply Mh|apply Mg|apply MR|exact MN)|exact (rfl : Qg _ = true)|exact (rfl : (_ : Option _) = some _)|decide)
theorem Ha (l : List Int) (j : Nat) (h : j < l.length) : (l.getD j 0 :: l.eraseIdx j).Perm l := by
 induction l generalizing j with
 | nil => cases h
 | cons x l ih =>
  cases j with
  | zero => exact .refl _
  | succ j =>
   rw [List.eraseIdx_cons_succ]
   exact (List.Perm.swap _ _ _).trans ((ih j (by simpa using h)).cons x)
theorem Hx (l : List Int) (j : Nat) : (iL l).eraseIdx j = iL (l.eraseIdx j) := by 
 induction l generalizing j with
 | nil => rfl
 | cons x l ih =>
  cases j with
  | zero => rfl
  | succ j =>
   show _ :: (iL l).eraseIdx j = _ :: iL (l.eraseIdx j)
   rw [ih]
theorem I4 (l m : List Int) : iL l ++ iL m = iL (l ++ m) := by unfold iL; rw [List.map_append]
theorem Hq (K : Frag) (c : Int) (n : Nat) (h12 : n ≤ 12) : ∃ found v, Xs (QF 4) (Qo (XF (Qc (Za 3 (GO 2 (Qc (Qr XB (Qc (Qr ZC (Qc (QA (Xq K) (Qb (eOp 0) (Qb (eOp 4) Qj)))) (Qc (Qd (.int 7))))) (Qc (Q8 YD (Qb (eOp 2) Qj))))))))) Qy) (iL (rng n)) [some (.sh (.int c)), some (.sh (.int n)), some (.ow true (.list (iL (rng n)))), some (.ow true (.list [])), none] = .ok .next [some (.sh (.int c)), some (.sh (.int n)), some (.ow true (.list [])), some (.ow true (.list (iL found))), v] ∧ found.Perm (rng n) := by
 obtain ⟨ρ', h1, left, found, v, rfl, hp, hl, hm⟩ := VC (b := QF 4) (sf := (Qo (XF (Qc (Za 3 (GO 2 (Qc (Qr XB (Qc (Qr ZC (Qc (QA (Xq K) (Qb (eOp 0) (Qb (eOp 4) Qj)))) (Qc (Qd (.int 7))))) (Qc (Q8 YD (Qb (eOp 2) Qj))))))))) Qy)) (fun ρ ds => ∃ (left found : List Int) (v : Option T), ρ = [some (.sh (.int c)), some (.sh (.int n)), some (.ow true (.list (iL left))), some (.ow true (.list (iL found))), v] ∧ (found ++ left).Perm (rng n) ∧ left.length = ds.length ∧ ∀ d ∈ ds, ∃ k : Int, d = .int k ∧ small k = true) (by
  rintro ρ d ds ⟨left, found, v, rfl, hp, hl, hm⟩
  obtain ⟨k, rfl, hk⟩ := hm d (.head _)
  have hn : (found ++ left).length = n := by rw [hp.length_eq, XE]
  rw [List.length_append] at hn
  rw [List.length_cons] at hl
  have e1 := Zv K c k hk
  have hl' : (iL left).length ≤ 1000000 := by rw [Q3]; lia
  have hf' : (iL found).length ≤ 1000000 := by rw [Q3]; lia
  have e2 := XA hl'
  rw [Q3] at e2
  have e3 : XB (.int ((mix c k).fdiv 7)) (.int left.length) = some (.sh (.int (((mix c k).fdiv 7).fmod left.length))) := QW (by lia)
  generalize hj : ((mix c k).fdiv 7).fmod left.length = j at e3
  have hj0 : 0 ≤ j := by rw [← hj]; exact Vi _ (by lia)
  have hj1 : j < left.length := by rw [← hj]; exact FQ _ (by lia)
  have e4 : (0 : Int) ≤ j ∧ j < ((iL left).length : Int) := by rw [Q3]; exact ⟨hj0, hj1⟩
  have e5 : (iL left)[j.toNat]? = some (.int (left.getD j.toNat 0)) := O3 (by omega)
  refine ⟨[some (.sh (.int c)), some (.sh (.int n)), some (.ow true (.list (iL left))), some (.ow true (.list (iL found))), some (.sh (.int k))], [some (.sh (.int c)), some (.sh (.int n)), some (.ow true (.list (iL (left.eraseIdx j.toNat)))), some (.ow true (.list (iL (found ++ [left.getD j.toNat 0])))), some (.sh (.int k))], rfl, ?_, _, _, _, rfl, ?_, ?_, fun d hd => hm d (.tail _ hd)⟩
  ·rw [← I4, ← Hx]
   show _ = Res.ok Fl.next [some (.sh (.int c)), some (.sh (.int n)), some (.ow true (.list ((iL left).eraseIdx j.toNat))), some (.ow true (.list (iL found ++ [.int (left.getD j.toNat 0)]))), some (.sh (.int k))]
   repeat' (first|(with_reducible first|assumption|exact QO|exact Zb|exact Yw|exact QH|exact Qt|apply Qp|apply Yz|exact Xk|exact Qz|apply Qn|apply QE|apply XG|apply Qu|apply QK|apply QC|apply Zq|apply Ld|apply Qq|apply Xh|apply QW|apply XW|apply Md|apply Mh|apply Mg|apply Mi|apply Mj|apply Ml|apply MT|apply MM)|exact Q6 rfl|exact (rfl : Qg _ = true)|exact (rfl : (_ : Option _) = some _)|decide)
  ·rw [List.append_assoc]
   exact ((Ha left j.toNat (by omega)).append_left found).trans hp
  ·rw [List.length_eraseIdx_of_lt (by omega)]; lia) (iL (rng n)) _ ⟨rng n, [], none, rfl, .refl _, by rw [XE, Q3, XE], fun d hd => by
   obtain ⟨i, hi, rfl⟩ := List.mem_map.mp hd
   have := FW.mp hi
   exact ⟨i, rfl, Y8 (by lia)⟩⟩
 have : left = [] := List.length_eq_zero_iff.mp hl
 subst this
 rw [List.append_nil] at hp
 exact ⟨found, v, h1, hp⟩
theorem Dx (K : Frag) (c : Int) (n : Nat) (h3 : 3 ≤ n) (h12 : n ≤ 12) : ∃ a, U1 K [.int c, .int n] = .ok (.sh (.tup (iL a))) ∧ Row n a := by
 obtain ⟨found, v, h1, hp⟩ := Hq K c n h12
 refine ⟨found, ?_, hp, h3, h12⟩
 have e1 := GV n (by exact omB h12)
 have e2 := OX n (by exact omB h12)
 have e3 := Jn (ds := iL found) (by rw [Q3, hp.length_eq, XE]; exact omB h12)
 unfold U1 OK
 refine' QU [some (.sh (.int c)), some (.sh (.int n)), none, none, none] rfl rfl ?_ Q0
 repeat' (first|(with_reducible first|assumption|exact QO|exact Zb|exact Yw|exact QH|exact Qt|apply Qp|exact XX|exact QX|exact QY|apply Qn|apply QB|apply Qu|apply QK|apply XJ|apply QG|apply Qq|apply QS|apply Q7|apply Q9|apply Md|apply Mi|apply Ml|apply Mm|apply Mr|apply MJ|apply MR|apply MV|apply MW|apply MM|exact MN)|exact (rfl : Qg _ = true)|exact (rfl : (_ : Option _) = some _)|decide)
theorem XV (a : Int) {n : Nat} (h : 0 < n) : ∃ p : Nat, a.fmod n = p ∧ p < n := by
 have h0 := Vi a (b := n) (by exact Int.ofNat_lt.mpr h)
 have h1 := FQ a (b := n) (by exact Int.ofNat_lt.mpr h)
 exact ⟨(a.fmod n).toNat, by (rw [Int.toNat_of_nonneg h0]), by omega⟩
theorem EE : PyData.strOk "refused" = true := by decide +kernel
theorem I8 : PyData.strOk "row" = true := by decide +kernel
noncomputable def O2 (n : Int) : Int → List D → Bool
 | _, [] => true
 | ah, .int p :: r => decide (ah + 2 ≤ p) && decide (p ≤ n - 2) && O2 n p r
 | _, _ :: _ => false
theorem Dz (K : Frag) (n : Int) {dch : D} {ds : List D} (hc : ∀ d ∈ ds, By d = true) : ∃ r, Xs (QF 3) (Qo (sIf (eOr (Y6 (XU (Qc (QA (ZR K) (Qb (eOp 3) Qj))))) (eOr (Y6 (JS leI leI (Qc (Qr Xg (eOp 2) (Qc (Qd (.int 2))))) (eOp 3) (Qc (Qr OE (eOp 0) (Qc (Qd (.int 2))))))) Z3)) (Qo (Jw 68 (Qw (Qd (.str "no place of a change")) Xv)) Qy) Qy) (Qo (Qx 2 (Xe 3)) Qy)) ds [some (.sh (.int n)), some (.sh dch), some (.sh (.int (-2))), none] = r ∧ (if O2 n (-2) ds then ∃ ρ, r = .ok .next ρ else ∃ ρ, r = .exc 68 ρ) := by
 refine E9 (fun ρ ds' => ∃ (ah : Int) (v : Option T), ρ = [some (.sh (.int n)), some (.sh dch), some (.sh (.int ah)), v] ∧ O2 n ah ds' = O2 n (-2) ds ∧ ∀ d ∈ ds', By d = true) _ ?_ ?_ ds _ ⟨-2, none, rfl, rfl, hc⟩
 ·rintro ρ ⟨ah, v, rfl, h, _⟩
  rw [← h, O2, if_pos rfl]; exact ⟨_, rfl⟩
 ·rintro ρ d ds' ⟨ah, v, rfl, h, hc⟩
  have hd := hc d (.head _)
  have e := YJ K d hd
  refine ⟨[some (.sh (.int n)), some (.sh dch), some (.sh (.int ah)), some (.sh d)], ?_⟩
  cases hw : isW d with
  | false =>
   rw [hw] at e
   have hp : O2 n (-2) ds = false := by rw [← h]; cases d <;> first | rfl | cases hw
   refine ⟨.exc 68 [some (.sh (.int n)), some (.sh dch), some (.sh (.int ah)), some (.sh d)], rfl, ?_, ?_⟩
   ·repeat' (first|(with_reducible first|assumption|exact QO|exact X3|exact Zb|exact QH|exact Qt|apply Qp|exact XX|apply Zj|exact QL|exact QY|exact Xi|exact Qz|apply Qn|apply XD|apply Xf|apply Qu|apply QC|apply QV|apply QP|apply Xp|apply XR|apply ZB|apply Qq|apply Q2|apply Q7|apply ZI|apply Md|apply Mj|apply Mo|apply Mp|apply Ms|apply MB|apply ME|apply MF|apply MV|exact Mt|exact Mu|exact Mx|apply My|apply MC|exact MD|apply MM|exact MO|apply MP|apply MQ)|exact Q6 rfl|exact (rfl : Qg _ = true)|exact QN rfl|exact (rfl : (_ : Option _) = some _)|decide)
   ·show if _ then _ else _
    rw [hp, if_neg (by decide)]; exact ⟨_, rfl⟩
  | true =>
   rw [hw] at e
   cases d with
   | int p =>
    rw [O2] at h
    by_cases h1 : ah + 2 ≤ p
    ·have e1 := WE h1
     by_cases h2 : p ≤ n - 2
     ·have e2 := WE h2
      refine ⟨.ok .next [some (.sh (.int n)), some (.sh dch), some (.sh (.int p)), some (.sh (.int p))], rfl, ?_, ?_⟩
      ·repeat' (first|(with_reducible first|assumption|exact QO|exact X3|exact Zb|exact QH|exact Qt|apply Qp|exact XX|apply Zj|exact QL|exact QY|exact Xi|exact Qz|apply Qn|apply XD|apply Xf|apply Qu|apply QC|apply QV|apply QP|apply Xp|apply XR|apply ZB|apply Qq|apply Q2|apply Q7|apply ZI|apply Md|apply Mj|apply Mo|apply Mp|apply Ms|apply MB|apply ME|apply MF|apply MV|exact Mt|exact Mu|exact Mx|apply My|apply MC|exact MD|apply MM|exact MO|apply MP|apply MQ)|exact Q6 rfl|exact (rfl : Qg _ = true)|exact QN rfl|exact (rfl : (_ : Option _) = some _)|decide)
      ·exact ⟨p, _, rfl, by rw [← h, decide_eq_true h1, decide_eq_true h2]; rfl, fun d hd => hc d (.tail _ hd)⟩
     ·have e2 := DS h2
      have hp : O2 n (-2) ds = false := by rw [← h, decide_eq_false h2]; simp
      refine ⟨.exc 68 [some (.sh (.int n)), some (.sh dch), some (.sh (.int ah)), some (.sh (.int p))], rfl, ?_, ?_⟩
      ·repeat' (first|(with_reducible first|assumption|exact QO|exact X3|exact Zb|exact QH|exact Qt|apply Qp|exact XX|apply Zj|exact QL|exact QY|exact Xi|exact Qz|apply Qn|apply XD|apply Xf|apply Qu|apply QC|apply QV|apply QP|apply Xp|apply XR|apply ZB|apply Qq|apply Q2|apply Q7|apply ZI|apply Md|apply Mj|apply Mo|apply Mp|apply Ms|apply MB|apply ME|apply MF|apply MV|exact Mt|exact Mu|exact Mx|apply My|apply MC|exact MD|apply MM|exact MO|apply MP|apply MQ)|exact Q6 rfl|exact (rfl : Qg _ = true)|exact QN rfl|exact (rfl : (_ : Option _) = some _)|decide)
      ·show if _ then _ else _
       rw [hp, if_neg (by decide)]; exact ⟨_, rfl⟩
    ·have e1 := DS h1
     have hp : O2 n (-2) ds = false := by rw [← h, decide_eq_false h1]; simp
     refine ⟨.exc 68 [some (.sh (.int n)), some (.sh dch), some (.sh (.int ah)), some (.sh (.int p))], rfl, ?_, ?_⟩
     ·repeat' (first|(with_reducible first|assumption|exact QO|exact X3|exact Zb|exact QH|exact Qt|apply Qp|exact XX|apply Zj|exact QL|exact QY|exact Xi|exact Qz|apply Qn|apply XD|apply Xf|apply Qu|apply QC|apply QV|apply QP|apply Xp|apply XR|apply ZB|apply Qq|apply Q2|apply Q7|apply ZI|apply Md|apply Mj|apply Mo|apply Mp|apply Ms|apply MB|apply ME|apply MF|apply MV|exact Mt|exact Mu|exact Mx|apply My|apply MC|exact MD|apply MM|exact MO|apply MP|apply MQ)|exact Q6 rfl|exact (rfl : Qg _ = true)|exact QN rfl|exact (rfl : (_ : Option _) = some _)|decide)
     ·show if _ then _ else _
      rw [hp, if_neg (by decide)]; exact ⟨_, rfl⟩
   | _ => cases hw
theorem Oj (K : Frag) (n : Int) (ds : List D) (hn : ds ≠ []) (hl : ds.length ≤ 1000000) (hc : ∀ d ∈ ds, By d = true) : ZT K [.int n, .tup ds] = if O2 n (-2) ds then .ok (.sh .none) else .exc 68 := by
 have e' : Q1 K [.tup ds, .glob (.type "tuple")] = some (.sh (.bool true)) := Ut K (.tup ds) rfl
 have e2 := U3 hl
 have e3 := VM (a := (ds.length : Int)) (b := 0) (by
  have := List.length_pos_iff.mpr hn; exact Int.ofNat_ne_zero.mpr (Nat.ne_of_gt this))
 obtain ⟨r, h1, h2⟩ := Dz K n (dch := .tup ds) hc
 have e4 : X0 (.tup ds) = some ds := rfl
 have e5 : Jl (.int 2) = some (.sh (.int (-2))) := rfl
 cases hp : O2 n (-2) ds with
 | true =>
  rw [hp, if_pos rfl] at h2
  obtain ⟨ρ, rfl⟩ := h2
  rw [if_pos rfl]
  unfold ZT JA
  refine' QU [some (.sh (.int n)), some (.sh (.tup ds)), none, none] rfl rfl ?_ U8
  repeat' (first|(with_reducible first|assumption|exact QO|exact Zb|exact QH|exact Qt|apply Qp|exact Xk|exact Xi|exact Qz|exact Q5|apply Qn|apply QE|apply QT|apply Qu|apply QK|apply QP|apply Xp|apply XR|apply Z1|apply QG|apply Qq|apply Q2|apply Q7|apply Q9|apply Md|apply Mf|apply Mi|apply Ml|apply Ms|apply Mz|apply MA|apply MJ|apply MV|apply MW|exact Mt|apply My|apply MM|exact MO|apply MQ)|exact (rfl : Qg _ = true)|exact QN rfl|exact (rfl : (_ : Option _) = some _)|decide)
 | false =>
  rw [hp, if_neg (by decide)] at h2
  obtain ⟨ρ, rfl⟩ := h2
  rw [if_neg (by decide)]
  unfold ZT JA
  refine' QU [some (.sh (.int n)), some (.sh (.tup ds)), none, none] rfl rfl ?_ Z9
  repeat' (first|(with_reducible first|assumption|exact QO|exact Zb|exact QH|exact Qt|apply Qp|exact Xk|exact Xi|exact Qz|exact Q5|apply Qn|apply QE|apply QT|apply Qu|apply QK|apply QP|apply Xp|apply XR|apply Z1|apply QG|apply Qq|apply Q2|apply Q7|apply Q9|apply Md|apply Mf|apply Mi|apply Ml|apply Ms|apply Mz|apply MA|apply MJ|apply MV|apply MW|exact Mt|apply My|apply MM|exact MO|apply MQ)|exact (rfl : Qg _ = true)|exact QN rfl|exact (rfl : (_ : Option _) = some _)|decide)
noncomputable def Uj (n : Nat) : Nat → List Nat → Bool
 | _, [] => true
 | lo, p :: r => decide (lo ≤ p) && decide (p + 2 ≤ n) && Uj n (p + 2) r
structure Change (n : Nat) (cs : List Nat) : Prop where
 ne : cs ≠ []
 ok : Uj n 0 cs = true
noncomputable def nD (cs : List Nat) : List D := cs.map fun (p : Nat) => D.int p
theorem FY (cs : List Nat) : nD cs = iL (cs.map fun (p : Nat) => (p : Int)) := by unfold nD iL; rw [List.map_map]; rfl
theorem FD (n : Nat) : ∀ (cs : List Nat) (lo : Nat), O2 n ((lo : Int) - 2) (nD cs) = Uj n lo cs
 | [], _ => rfl
 | p :: r, lo => by
  show (decide _ && decide _ && O2 n p (nD r)) = _
  rw [Uj, ← FD n r (p + 2)]
  have a : decide ((lo : Int) - 2 + 2 ≤ p) = decide (lo ≤ p) := decide_eq_decide.mpr (by simp +arith)
  have b : decide ((p : Int) ≤ n - 2) = decide (p + 2 ≤ n) := decide_eq_decide.mpr (by lia)
  rw [a, b, show (((p + 2 : Nat) : Int) - 2) = (p : Int) by simp +arith]
theorem VT {n : Nat} : ∀ {cs : List Nat} {lo : Nat}, Uj n lo cs = true → lo ≤ n → cs.length ≤ n - lo
 | [], _, _, _ => Nat.zero_le _
 | p :: r, lo, h, hl => by
  rw [Uj] at h
  simp only [Bool.and_eq_true, decide_eq_true_eq] at h
  have := VT h.2 (by lia)
  simp only [List.length_cons]; omega
theorem Fn (cs : List Nat) : (nD cs).length = cs.length := by simp [nD]
theorem ID (cs : List Nat) : ∀ d ∈ nD cs, By d = true := fun d hd => by
 obtain ⟨i, _, rfl⟩ := List.mem_map.mp hd; rfl
theorem O6 (K : Frag) {n : Nat} {cs : List Nat} (h : Change n cs) (hn : n ≤ 12) : ZT K [.int n, .tup (nD cs)] = .ok (.sh .none) := by
 have := VT h.ok (Nat.zero_le _)
 rw [Oj K n (nD cs) (by intro q; exact h.ne (List.map_eq_nil_iff.mp q)) (by rw [Fn]; exact Nat.le_trans this (Nat.le_trans hn (by decide))) (ID cs)]
 have e := FD n cs 0
 rw [show (((0 : Nat) : Int) - 2) = -2 by decide] at e
 rw [e, h.ok, if_pos rfl]
noncomputable def swap (f : List Int) (p : Nat) : List Int := (f.set p (f.getD (p + 1) 0)).set (p + 1) (f.getD p 0)
noncomputable def rung (a : List Int) (cs : List Nat) : List Int := cs.foldl swap a
theorem K5 (f : List Int) (p : Nat) : (swap f p).length = f.length := by simp [swap]
theorem Od (a : List Int) (cs : List Nat) : (rung a cs).length = a.length := by
 unfold rung
 induction cs generalizing a with
 | nil => rfl
 | cons p r ih => rw [List.foldl_cons, ih, K5]
theorem H1 {f : List Int} {p : Nat} (h : p + 1 < f.length) (i : Nat) : (swap f p)[i]? = if i = p then f[p + 1]? else if i = p + 1 then f[p]? else f[i]? := by
 unfold swap
 by_cases h1 : i = p
 ·subst h1
  rw [if_pos rfl, List.getElem?_set_ne (by (simpa using h)), List.getElem?_set_self (by exact Nat.lt_of_succ_lt h), List.getD_eq_getElem?_getD, List.getElem?_eq_getElem h]; rfl
 ·rw [if_neg h1]
  by_cases h2 : i = p + 1
  ·subst h2
   rw [if_pos rfl, List.getElem?_set_self (by rw [List.length_set]; omega), List.getD_eq_getElem?_getD, List.getElem?_eq_getElem (by exact Nat.lt_of_succ_lt h : p < f.length)]; rfl
  ·rw [if_neg h2, List.getElem?_set_ne (by exact Ne.symm h2), List.getElem?_set_ne (by exact Ne.symm h1)]
theorem Gj {f : List Int} {p : Nat} (h : p + 1 < f.length) : (swap f p).Perm f := by
 induction p generalizing f with
 | zero =>
  match f, h with
  | x :: y :: l, _ => exact List.Perm.swap _ _ _
 | succ p ih =>
  match f, h with
  | x :: l, h =>
   have : swap (x :: l) (p + 1) = x :: swap l p := by unfold swap; simp
   rw [this]
   exact (ih (by simpa using h)).cons x
theorem Cj {n : Nat} : ∀ {cs : List Nat} {lo : Nat} {f : List Int}, f.length = n → Uj n lo cs = true → (rung f cs).Perm f
 | [], _, _, _, _ => .refl _
 | q :: r, lo, f, hf, h => by
  rw [Uj] at h
  simp only [Bool.and_eq_true, decide_eq_true_eq] at h
  exact (Cj (f := swap f q) (by rw [K5]; exact hf) h.2).trans (Gj (by lia))
theorem Row.rung {n : Nat} {a : List Int} {cs : List Nat} (r : Row n a) (h : Uj n 0 cs = true) : Row n (rung a cs) := ⟨(Cj r.len h).trans r.perm, r.h3, r.h12⟩
theorem Do (K : Frag) {n : Nat} {a : List Int} {dch : D} (ha : a.length = n) (hn : n ≤ 12) {cs : List Nat} (h : Uj n 0 cs = true) : ∃ v, Xs (QF 3) (Qo (Jd 2 (eOp 3) (Qr Xn (eOp 0) (Qc (Qr Xg (eOp 3) (Qc (Qd (.int 1))))))) (Qo (Jd 2 (Qc (Qr Xg (eOp 3) (Qc (Qd (.int 1))))) (Qr Xn (eOp 0) (eOp 3))) Qy)) (nD cs) [some (.sh (.tup (iL a))), some (.sh dch), some (.ow true (.list (iL a))), none] = .ok .next [some (.sh (.tup (iL a))), some (.sh dch), some (.ow true (.list (iL (rung a cs)))), v] := by
 obtain ⟨ρ', h1, f, cs', v, lo, rfl, hd, hf, hr, hc, hg⟩ := VC (b := QF 3) (sf := (Qo (Jd 2 (eOp 3) (Qr Xn (eOp 0) (Qc (Qr Xg (eOp 3) (Qc (Qd (.int 1))))))) (Qo (Jd 2 (Qc (Qr Xg (eOp 3) (Qc (Qd (.int 1))))) (Qr Xn (eOp 0) (eOp 3))) Qy))) (fun ρ ds => ∃ (f : List Int) (cs' : List Nat) (v : Option T) (lo : Nat), ρ = [some (.sh (.tup (iL a))), some (.sh dch), some (.ow true (.list (iL f))), v] ∧ ds = nD cs' ∧ f.length = n ∧ rung f cs' = rung a cs ∧ Uj n lo cs' = true ∧ ∀ i, lo ≤ i → f[i]? = a[i]?) (by
  rintro ρ d ds ⟨f, cs', v, lo, rfl, hd, hf, hr, hc, hg⟩
  cases cs' with
  | nil => cases hd
  | cons p r =>
   cases hd
   rw [Uj] at hc
   simp only [Bool.and_eq_true, decide_eq_true_eq] at hc
   have hp1 : p + 1 < f.length := by rw [hf]; exact hc.1.2
   have hp1a : p + 1 < a.length := by rw [ha]; exact hc.1.2
   have hp0 : p < f.length := Nat.lt_of_succ_lt hp1
   have hb : p + 1 ≤ 1000 := Nat.le_trans (Nat.le_of_succ_le hc.1.2) (HP hn)
   have hlf : (iL f).length ≤ 1000000 := by rw [Q3, hf]; exact FR hn
   have e1 : Xn (.tup (iL a)) (.int ((p : Int) + 1)) = some (.sh (.int (a.getD (p + 1) 0))) := Ek (p := p + 1) hb (O3 hp1a)
   have e2 : Xn (.tup (iL a)) (.int p) = some (.sh (.int (a.getD p 0))) := Ek (Nat.le_of_succ_le hb) (O3 (Nat.lt_of_succ_lt hp1a))
   have e3 : (0 : Int) ≤ p ∧ (p : Int) < ((iL f).length : Int) := ⟨Int.natCast_nonneg p, by rw [Q3]; exact Int.ofNat_lt.mpr hp0⟩
   have e4 : (0 : Int) ≤ (p : Int) + 1 ∧ (p : Int) + 1 < (((iL f).set (p : Int).toNat (.int (a.getD (p + 1) 0))).length : Int) := ⟨Int.natCast_nonneg (p + 1), by rw [List.length_set, Q3]; exact Int.ofNat_lt.mpr hp1⟩
   have e5 : ((iL f).set (p : Int).toNat (.int (a.getD (p + 1) 0))).length ≤ 1000000 := by rw [List.length_set]; exact hlf
   have ep : a.getD p 0 = f.getD p 0 := by rw [List.getD_eq_getElem?_getD, List.getD_eq_getElem?_getD, hg p hc.1.1]
   have eq : a.getD (p + 1) 0 = f.getD (p + 1) 0 := by rw [List.getD_eq_getElem?_getD, List.getD_eq_getElem?_getD, hg (p + 1) (Nat.le_succ_of_le hc.1.1)]
   refine ⟨[some (.sh (.tup (iL a))), some (.sh dch), some (.ow true (.list (iL f))), some (.sh (.int p))], [some (.sh (.tup (iL a))), some (.sh dch), some (.ow true (.list (((iL f).set (p : Int).toNat (.int (a.getD (p + 1) 0))).set ((p : Int) + 1).toNat (.int (a.getD p 0))))), some (.sh (.int p))], rfl, ?_, swap f p, r, some (.sh (.int p)), p + 2, ?_, rfl, by rw [K5]; exact hf, hr, hc.2, ?_⟩
   ·repeat' (first|(with_reducible first|assumption|exact QO|exact X3|exact Zb|exact QH|apply Yz|exact Qz|apply XD|apply ZH|apply Xf|apply Qu|apply Qq|apply Fo|apply Md|apply Mg|apply MM)|exact (rfl : Qg _ = true)|exact (rfl : (_ : Option _) = some _)|decide)
   ·rw [HJ, HJ, show ((p : Int) + 1).toNat = p + 1 from rfl, Int.toNat_natCast, ep, eq]; rfl
   ·intro i hi
    rw [H1 hp1, if_neg (Nat.ne_of_gt (Nat.lt_of_succ_lt hi)), if_neg (Nat.ne_of_gt hi)]
    exact hg i (Nat.le_trans hc.1.1 (Nat.le_of_lt (Nat.lt_of_succ_lt hi)))) (nD cs) _ ⟨a, cs, none, 0, rfl, rfl, ha, rfl, h, fun i _ => rfl⟩
 have : cs' = [] := List.map_eq_nil_iff.mp hd.symm
 subst this
 have hr' : f = rung a cs := hr
 subst hr'
 exact ⟨v, h1⟩
theorem K4 (K : Frag) {n : Nat} {a : List Int} (ha : a.length = n) (hn : n ≤ 12) {cs : List Nat} (h : Uj n 0 cs = true) : J7 K [.tup (iL a), .tup (nD cs)] = .ok (.sh (.tup (iL (rung a cs)))) := by
 obtain ⟨v, h1⟩ := Do K (dch := .tup (nD cs)) ha hn h
 have e1 : Yv [.tup (iL a)] = some (.ow true (.list (iL a))) := CO (by rw [Q3]; exact Nat.le_trans (Nat.le_of_eq ha) (Nat.le_trans hn (by decide)))
 have e2 := Jn (ds := iL (rung a cs)) (by rw [Q3, Od]; exact Nat.le_trans (Nat.le_of_eq ha) (Nat.le_trans hn (by decide)))
 have e3 : X0 (.tup (nD cs)) = some (nD cs) := rfl
 unfold J7 O5
 refine' QU [some (.sh (.tup (iL a))), some (.sh (.tup (nD cs))), none, none] rfl rfl ?_ Q0
 repeat' (first|(with_reducible first|assumption|exact QO|exact Zb|exact Qt|apply Qp|apply Qn|apply QK|apply QG|apply Qq|apply QS|apply Q7|apply Q9|apply Mi|apply MJ|apply MR|apply MV|apply MW|apply MM|exact MN)|exact (rfl : Qg _ = true)|exact QN rfl|exact (rfl : (_ : Option _) = some _)|decide)
theorem Gk {f : List Int} {p : Nat} (h : p + 1 < f.length) : f.take p ++ [f.getD (p + 1) 0, f.getD p 0] ++ f.drop (p + 2) = swap f p := by
 induction p generalizing f with
 | zero =>
  match f, h with
  | x :: y :: l, _ => rfl
 | succ p ih =>
  match f, h with
  | x :: l, h =>
   have : swap (x :: l) (p + 1) = x :: swap l p := by unfold swap; simp
   rw [this, ← ih (by simpa using h)]
   rfl
theorem Hy {f : List Int} {p : Nat} (h : p + 1 < f.length) : (iL f).take p ++ [.int (f.getD (p + 1) 0), .int (f.getD p 0)] ++ (iL f).drop (p + 2) = iL (swap f p) := by
 rw [← Gk h]
 unfold iL
 simp
theorem GK (K : Frag) {n : Nat} {a : List Int} {da dch : D} (ha : a.length = n) (hn : n ≤ 12) {cs : List Nat} (h : Uj n 0 cs = true) : ∃ v, Xs (QF 3) (Qo (Qx 2 (Qr Xg (Qc (Qr Xg (Qc (ZQ (eOp 2) Zt (Jf (eOp 3)))) (Qc (ZA (Qw (Qr Xn (eOp 2) (Qc (Qr Xg (eOp 3) (Qc (Qd (.int 1)))))) (Qw (Qr Xn (eOp 2) (eOp 3)) Xv)))))) (Qc (ZQ (eOp 2) (Jf (Qc (Qr Xg (eOp 3) (Qc (Qd (.int 2)))))) Zt)))) Qy) (nD cs) [some (.sh da), some (.sh dch), some (.ow true (.list (iL a))), none] = .ok .next [some (.sh da), some (.sh dch), some (.ow true (.list (iL (rung a cs)))), v] := by
 obtain ⟨ρ', h1, f, cs', v, lo, rfl, hd, hf, hr, hc⟩ := VC (b := QF 3) (sf := (Qo (Qx 2 (Qr Xg (Qc (Qr Xg (Qc (ZQ (eOp 2) Zt (Jf (eOp 3)))) (Qc (ZA (Qw (Qr Xn (eOp 2) (Qc (Qr Xg (eOp 3) (Qc (Qd (.int 1)))))) (Qw (Qr Xn (eOp 2) (eOp 3)) Xv)))))) (Qc (ZQ (eOp 2) (Jf (Qc (Qr Xg (eOp 3) (Qc (Qd (.int 2)))))) Zt)))) Qy)) (fun ρ ds => ∃ (f : List Int) (cs' : List Nat) (v : Option T) (lo : Nat), ρ = [some (.sh da), some (.sh dch), some (.ow true (.list (iL f))), v] ∧ ds = nD cs' ∧ f.length = n ∧ rung f cs' = rung a cs ∧ Uj n lo cs' = true) (by
  rintro ρ d ds ⟨f, cs', v, lo, rfl, hd, hf, hr, hc⟩
  cases cs' with
  | nil => cases hd
  | cons p r =>
   cases hd
   rw [Uj] at hc
   simp only [Bool.and_eq_true, decide_eq_true_eq] at hc
   have hl : (iL f).length = n := by rw [Q3]; exact hf
   have hp2 : p + 2 ≤ n := hc.1.2
   have hp1 : p + 1 < f.length := by rw [hf]; exact hp2
   have hb : p + 1 ≤ 1000 := Nat.le_trans (Nat.le_of_succ_le hp2) (HP hn)
   have hlb : (iL f).length ≤ 1000000 := by rw [hl]; exact FR hn
   have hpn : p ≤ (iL f).length := by rw [hl]; exact Nat.le_trans (Nat.le_add_right p 2) hp2
   have e1 : Xn (.list (iL f)) (.int ((p : Int) + 1)) = some (.sh (.int (f.getD (p + 1) 0))) := Cz (p := p + 1) hb (O3 hp1)
   have e2 : Xn (.list (iL f)) (.int p) = some (.sh (.int (f.getD p 0))) := Cz (Nat.le_of_succ_le hb) (O3 (Nat.lt_of_succ_lt hp1))
   have e3 : YB (.list (iL f)) none (some (p : Int)) = some (.ow true (.list ((iL f).take p))) := by rw [JI hlb, Ho hpn]
   have e4 : YB (.list (iL f)) (some ((p : Int) + 2)) none = some (.ow true (.list ((iL f).drop (p + 2)))) := by
    rw [JI hlb, show ((p : Int) + 2) = ((p + 2 : Nat) : Int) from rfl, Ov (by rw [hl]; exact hp2)]
   have l1 : ((iL f).take p).length = p := by rw [List.length_take]; exact Nat.min_eq_left hpn
   have l2 : ((iL f).drop (p + 2)).length = n - (p + 2) := by rw [List.length_drop, hl]
   have e5 : Xg (.list ((iL f).take p)) (.list [.int (f.getD (p + 1) 0), .int (f.getD p 0)]) = some (.ow true (.list ((iL f).take p ++ [.int (f.getD (p + 1) 0), .int (f.getD p 0)]))) := Wq (by rw [l1]; exact Nat.le_trans hp2 (FR hn))
   have e6 : Xg (.list ((iL f).take p ++ [.int (f.getD (p + 1) 0), .int (f.getD p 0)])) (.list ((iL f).drop (p + 2))) = some (.ow true (.list (iL (swap f p)))) := by
    rw [Wq (by rw [l2, List.length_append, l1]; show p + 2 + (n - (p + 2)) ≤ 1000000; rw [Nat.add_sub_cancel' hp2]; exact FR hn), Hy hp1]
   refine ⟨[some (.sh da), some (.sh dch), some (.ow true (.list (iL f))), some (.sh (.int p))], [some (.sh da), some (.sh dch), some (.ow true (.list (iL (swap f p)))), some (.sh (.int p))], rfl, ?_, swap f p, r, _, p + 2, rfl, rfl, by rw [K5]; exact hf, hr, hc.2⟩
   repeat' (first|(with_reducible first|assumption|exact QO|exact Zl|exact X3|exact Zb|exact QH|exact XX|apply Zj|exact QY|exact Zo|exact Qz|apply XD|apply ZH|apply XG|apply Xf|apply Qu|apply QV|apply XJ|apply Yu|apply ZL|apply Qq|apply Q7|apply Md|apply Mh|apply Mg|apply Mo|apply Mp|apply Mr|apply MV|apply MM)|exact (rfl : Qg _ = true)|exact (rfl : (_ : Option _) = some _)|decide)) (nD cs) _ ⟨a, cs, none, 0, rfl, rfl, ha, rfl, h⟩
 have : cs' = [] := List.map_eq_nil_iff.mp hd.symm
 subst this
 have hr' : f = rung a cs := hr
 subst hr'
 exact ⟨v, h1⟩
theorem Ku (K : Frag) {n : Nat} {a : List Int} (ha : a.length = n) (hn : n ≤ 12) {cs : List Nat} (h : Uj n 0 cs = true) : Yx K [.tup (iL a), .tup (nD cs)] = .ok (.sh (.tup (iL (rung a cs)))) := by
 obtain ⟨v, h1⟩ := GK K (da := .tup (iL a)) (dch := .tup (nD cs)) ha hn h
 have e1 : Yv [.tup (iL a)] = some (.ow true (.list (iL a))) := CO (by rw [Q3]; exact Nat.le_trans (Nat.le_of_eq ha) (Nat.le_trans hn (by decide)))
 have e2 := Jn (ds := iL (rung a cs)) (by rw [Q3, Od]; exact Nat.le_trans (Nat.le_of_eq ha) (Nat.le_trans hn (by decide)))
 have e3 : X0 (.tup (nD cs)) = some (nD cs) := rfl
 unfold Yx KM
 refine' QU [some (.sh (.tup (iL a))), some (.sh (.tup (nD cs))), none, none] rfl rfl ?_ Q0
 repeat' (first|(with_reducible first|assumption|exact QO|exact Zb|exact Qt|apply Qp|apply Qn|apply QK|apply QG|apply Qq|apply QS|apply Q7|apply Q9|apply Mi|apply MJ|apply MR|apply MV|apply MW|apply MM|exact MN)|exact (rfl : Qg _ = true)|exact QN rfl|exact (rfl : (_ : Option _) = some _)|decide)
theorem DL (K : Frag) (c : Int) (n : Nat) (h3 : 3 ≤ n) (h12 : n ≤ 12) : ∃ r, (BP 1000 (Xl ltI (eOp 3) (Qc (Qr OE (eOp 1) (Qc (Qd (.int 1)))))) (Qo (sIf (Xl gtI (Qc (Qr XB (Qc (Qr ZC (Qc (QA (Xq K) (Qb (eOp 0) (Qb (eOp 3) Qj)))) (Qc (Qd (.int 5))))) (Qc (Qd (.int 3))))) (Qc (Qd (.int 0)))) (Qo (XF (Qc (Za 2 (Xe 3)))) (Qo (Qx 3 (Qr Xg (eOp 3) (Qc (Qd (.int 1))))) Qy)) Qy) (Qo (Qx 3 (Qr Xg (eOp 3) (Qc (Qd (.int 1))))) Qy))) [some (.sh (.int c)), some (.sh (.int n)), some (.ow true (.list [])), some (.sh (.int 0))] = r ∧ ∃ cs v, r = .ok .next [some (.sh (.int c)), some (.sh (.int n)), some (.ow true (.list (nD cs))), v] ∧ Uj n 0 cs = true := by
 refine DD (fun m ρ => ∃ (cs : List Nat) (p : Nat), ρ = [some (.sh (.int c)), some (.sh (.int n)), some (.ow true (.list (nD cs))), some (.sh (.int p))] ∧ m = 100 - p ∧ p ≤ n ∧ cs.length ≤ p ∧ (∀ r, Uj n p r = true → Uj n 0 (cs ++ r) = true)) (fun r => ∃ cs v, r = .ok .next [some (.sh (.int c)), some (.sh (.int n)), some (.ow true (.list (nD cs))), v] ∧ Uj n 0 cs = true) ?_ 1000 100 _ ⟨[], 0, rfl, rfl, Nat.zero_le _, Nat.zero_le _, fun r h => h⟩ (by decide)
 rintro m ρ ⟨cs, p, rfl, rfl, hp, hl, hc⟩
 have e0 : (OE (.int n) (.int 1)) = some (.sh (.int ((n : Int) - 1))) := rfl
 by_cases hpn : (p : Int) < (n : Int) - 1
 ·right
  have e1 := H9 hpn
  have e2 := Zv K c p (Y8 (by omega))
  have e3 : XB (.int ((mix c p).fdiv 5)) (.int 3) = some (.sh (.int (((mix c p).fdiv 5).fmod 3))) := QW (by decide)
  generalize ((mix c p).fdiv 5).fmod 3 = z at e3
  have hl' : (nD cs).length ≤ 1000000 := by rw [Fn]; lia
  by_cases hz : 0 < z
  ·have e4 := FL hz
   refine ⟨[some (.sh (.int c)), some (.sh (.int n)), some (.ow true (.list (nD cs))), some (.sh (.int p))], .ok .next [some (.sh (.int c)), some (.sh (.int n)), some (.ow true (.list (nD cs ++ [.int p]))), some (.sh (.int ((p : Int) + 1 + 1)))], ?_, ?_, 100 - (p + 2), by omega, cs ++ [p], p + 2, ?_, rfl, by lia, by simp; exact Nat.le_succ_of_le hl, ?_⟩
   ·repeat' (first|(with_reducible first|assumption|exact QO|exact X3|exact Zb|exact Yw|exact QH|exact Qt|apply Qp|apply Yz|exact Xk|exact Qz|apply Qn|apply QE|apply XD|apply XG|apply Zn|apply QT|apply Qu|apply QC|apply Zq|apply Qq|apply Q2|apply Xh|apply Q7|apply QW|apply XW|apply Md|apply Mh|apply Mg|apply Mj|apply Ml|apply Mz|apply MA|apply MT|apply MV|apply MM|apply MP|apply MQ)|exact Q6 rfl|exact (rfl : Qg _ = true)|exact QN rfl|exact (rfl : (_ : Option _) = some _)|decide)
   ·repeat' (first|(with_reducible first|assumption|exact QO|exact X3|exact Zb|exact Yw|exact QH|exact Qt|apply Qp|apply Yz|exact Xk|exact Qz|apply Qn|apply QE|apply XD|apply XG|apply Zn|apply QT|apply Qu|apply QC|apply Zq|apply Qq|apply Q2|apply Xh|apply Q7|apply QW|apply XW|apply Md|apply Mh|apply Mg|apply Mj|apply Ml|apply Mz|apply MA|apply MT|apply MV|apply MM|apply MP|apply MQ)|exact Q6 rfl|exact (rfl : Qg _ = true)|exact QN rfl|exact (rfl : (_ : Option _) = some _)|decide)
   ·rw [show ((p : Int) + 1 + 1) = ((p + 2 : Nat) : Int) from rfl]
    unfold nD; rw [List.map_append]; rfl
   ·intro r hr
    rw [List.append_assoc]
    refine hc _ ?_
    show (decide _ && decide _ && Uj n (p + 2) r) = true
    rw [hr, decide_eq_true (Nat.le_refl _), decide_eq_true (by lia)]; rfl
  ·have e4 := VN hz
   refine ⟨[some (.sh (.int c)), some (.sh (.int n)), some (.ow true (.list (nD cs))), some (.sh (.int p))], .ok .next [some (.sh (.int c)), some (.sh (.int n)), some (.ow true (.list (nD cs))), some (.sh (.int ((p : Int) + 1)))], ?_, ?_, 100 - (p + 1), by lia, cs, p + 1, ?_, rfl, by lia, by exact Nat.le_succ_of_le hl, ?_⟩
   ·repeat' (first|(with_reducible first|assumption|exact QO|exact X3|exact Zb|exact Yw|exact QH|exact Qt|apply Qp|apply Yz|exact Xk|exact Qz|apply Qn|apply QE|apply XD|apply XG|apply Zn|apply QT|apply Qu|apply QC|apply Zq|apply Qq|apply Q2|apply Xh|apply Q7|apply QW|apply XW|apply Md|apply Mh|apply Mg|apply Mj|apply Ml|apply Mz|apply MA|apply MT|apply MV|apply MM|apply MP|apply MQ)|exact Q6 rfl|exact (rfl : Qg _ = true)|exact QN rfl|exact (rfl : (_ : Option _) = some _)|decide)
   ·repeat' (first|(with_reducible first|assumption|exact QO|exact X3|exact Zb|exact Yw|exact QH|exact Qt|apply Qp|apply Yz|exact Xk|exact Qz|apply Qn|apply QE|apply XD|apply XG|apply Zn|apply QT|apply Qu|apply QC|apply Zq|apply Qq|apply Q2|apply Xh|apply Q7|apply QW|apply XW|apply Md|apply Mh|apply Mg|apply Mj|apply Ml|apply Mz|apply MA|apply MT|apply MV|apply MM|apply MP|apply MQ)|exact Q6 rfl|exact (rfl : Qg _ = true)|exact QN rfl|exact (rfl : (_ : Option _) = some _)|decide)
   ·rfl
   ·intro r hr
    refine hc r ?_
    cases r with
    | nil => rfl
    | cons q r =>
     rw [Uj] at hr ⊢
     simp only [Bool.and_eq_true, decide_eq_true_eq] at hr ⊢
     exact ⟨⟨by lia, hr.1.2⟩, hr.2⟩
 ·left
  have e1 := HI hpn
  refine ⟨[some (.sh (.int c)), some (.sh (.int n)), some (.ow true (.list (nD cs))), some (.sh (.int p))], ?_, cs, _, rfl, ?_⟩
  ·repeat' (first|(with_reducible first|assumption|exact QO|exact X3|exact Zb|exact Yw|exact QH|exact Qt|apply Qp|apply Yz|exact Xk|exact Qz|apply Qn|apply QE|apply XD|apply XG|apply Zn|apply QT|apply Qu|apply QC|apply Zq|apply Qq|apply Q2|apply Xh|apply Q7|apply QW|apply XW|apply Md|apply Mh|apply Mg|apply Mj|apply Ml|apply Mz|apply MA|apply MT|apply MV|apply MM|apply MP|apply MQ)|exact Q6 rfl|exact (rfl : Qg _ = true)|exact QN rfl|exact (rfl : (_ : Option _) = some _)|decide)
  ·have := hc [] rfl
   rwa [List.append_nil] at this
theorem F7 (cs : List Nat) : eqI (.list (nD cs)) (.list []) = some (.sh (.bool (decide (cs = [])))) := by
 have := Oq (cs.map fun (p : Nat) => (p : Int)) []
 rw [← FY] at this
 rw [show (D.list (iL [])) = .list [] from rfl] at this
 rw [this]
 congr 3
 unfold eqB
 exact decide_eq_decide.mpr List.map_eq_nil_iff
theorem JR (K : Frag) (c : Int) (n : Nat) (h3 : 3 ≤ n) (h12 : n ≤ 12) : ∃ cs, Zi K [.int c, .int n] = .ok (.sh (.tup (nD cs))) ∧ Change n cs := by
 obtain ⟨r, h1, cs, v, rfl, hc⟩ := DL K c n h3 h12
 have e1 := F7 cs
 have hl := VT hc (Nat.zero_le _)
 by_cases hz : cs = []
 ·subst hz
  rw [decide_eq_true rfl] at e1
  have e2 := Zv K c 20 (Y8 (by decide))
  obtain ⟨p, hp, hpn⟩ := XV (mix c 20) (n := n - 1) (by lia)
  have e0 : (OE (.int n) (.int 1)) = some (.sh (.int ((n : Int) - 1))) := rfl
  have e3 : XB (.int (mix c 20)) (.int ((n : Int) - 1)) = some (.sh (.int p)) := by rw [QW (by lia), show ((n : Int) - 1) = ((n - 1 : Nat) : Int) by lia, hp]
  refine ⟨[p], ?_, by simp, ?_⟩
  ·have e4 : YT [.list [.int p]] = some (.sh (.tup (nD [p]))) := Jn (ds := [.int p]) (by simp)
   unfold Zi J3
   refine' QU [some (.sh (.int c)), some (.sh (.int n)), none, none] rfl rfl ?_ Q0
   repeat' (first|(with_reducible first|assumption|exact QO|exact Zl|exact X3|exact Zb|exact Yw|exact QH|exact Qt|apply Qp|exact XX|apply Zj|exact QL|exact QY|exact Qz|exact Q5|apply Qn|apply QE|apply XD|apply XG|apply Zn|apply Qu|apply QK|apply QC|apply QV|apply XJ|apply Qq|apply Q2|apply QS|apply Q7|apply QW|apply Md|apply Mh|apply Mg|apply Mi|apply Mj|apply Ml|apply Mo|apply Mp|apply Mr|apply Mz|apply MR|apply MV|apply MM|exact MN|apply MP|apply MQ)|exact Q6 rfl|exact (rfl : Qg _ = true)|exact (rfl : (_ : Option _) = some _)|decide)
  ·show (decide _ && decide _ && true) = true
   rw [decide_eq_true (Nat.zero_le _), decide_eq_true (by exact Nat.add_lt_of_lt_sub hpn)]; rfl
 ·rw [decide_eq_false hz] at e1
  refine ⟨cs, ?_, hz, hc⟩
  have e4 := Jn (ds := nD cs) (by rw [Fn]; exact Nat.le_trans hl (Nat.le_trans h12 (by decide)))
  unfold Zi J3
  refine' QU [some (.sh (.int c)), some (.sh (.int n)), none, none] rfl rfl ?_ Q0
  repeat' (first|(with_reducible first|assumption|exact QO|exact Zl|exact X3|exact Zb|exact Yw|exact QH|exact Qt|apply Qp|exact XX|apply Zj|exact QL|exact QY|exact Qz|exact Q5|apply Qn|apply QE|apply XD|apply XG|apply Zn|apply Qu|apply QK|apply QC|apply QV|apply XJ|apply Qq|apply Q2|apply QS|apply Q7|apply QW|apply Md|apply Mh|apply Mg|apply Mi|apply Mj|apply Ml|apply Mo|apply Mp|apply Mr|apply Mz|apply MR|apply MV|apply MM|exact MN|apply MP|apply MQ)|exact Q6 rfl|exact (rfl : Qg _ = true)|exact (rfl : (_ : Option _) = some _)|decide)
structure ExcI (K : Frag) (C : Addr) (i : Nat) : Prop where
 e1 : Q1 K [.exc C, .glob (.ref 44)] = some (.sh (.bool (i == 0)))
 e2 : Q1 K [.exc C, .glob (.ref 56)] = some (.sh (.bool (i == 1)))
 e3 : Q1 K [.exc C, .glob (.ref 68)] = some (.sh (.bool (i == 2)))
 e4 : Q1 K [.exc C, .glob (.ref 80)] = some (.sh (.bool (i == 3)))
 e5 : Q1 K [.exc C, .glob (.ref 92)] = some (.sh (.bool (i == 4)))
 e6 : Q1 K [.exc C, .glob (.ref 104)] = some (.sh (.bool (i == 5)))
 e7 : Q1 K [.exc C, .glob (.ref 116)] = some (.sh (.bool (i == 6)))
 e8 : Q1 K [.exc C, .glob (.type "ValueError")] = some (.sh (.bool true))
 m : (W.mroIn K C (.ref 31) == some true) = true
noncomputable def E5 : Nat → Str
 | 0 => "bells"
 | 1 => "row"
 | 2 => "change"
 | 3 => "method"
 | 4 => "call"
 | 5 => "count"
 | _ => "text"
noncomputable def E0 (x : Str) : T := .ow true (.list [.str "refused", .str x])
noncomputable def D2 (i : Nat) : List D := [.tup [.str "bells", .bool (i == 0)], .tup [.str "row", .bool (i == 1)], .tup [.str "change", .bool (i == 2)], .tup [.str "method", .bool (i == 3)], .tup [.str "call", .bool (i == 4)], .tup [.str "count", .bool (i == 5)], .tup [.str "text", .bool (i == 6)]]
theorem GS (K : Frag) (C : Addr) (i : Nat) (hi : i < 7) (h : ExcI K C i) : Yl (ZD [1, 2]) (CZ (XU (eOp 2)) (CZ (XU (Qc (Q8 (Q1 K) (Qb (eOp 3) (Qb (Qc (Qd (.glob (.type "ValueError")))) Qj))))) KY)) (Xe 1) [none, none, none, some (.sh (.exc C))] (D2 i) [] = some [.str (E5 i)] := by
 have := KF (b := ZD [1, 2]) (t := CZ (XU (eOp 2)) (CZ (XU (Qc (Q8 (Q1 K) (Qb (eOp 3) (Qb (Qc (Qd (.glob (.type "ValueError")))) Qj))))) KY)) (f := Xe 1) (ρ₀ := [none, none, none, some (.sh (.exc C))]) (q := fun d => match d with | .tup [_, .bool b] => b | _ => false) (g := fun d => match d with | .tup [x, _] => x | _ => .none) (D2 i) [] (fun d hd => ?_) (by simp [D2])
 ·rw [this]
  have : i = 0 ∨ i = 1 ∨ i = 2 ∨ i = 3 ∨ i = 4 ∨ i = 5 ∨ i = 6 := by lia
  rcases this with rfl | rfl | rfl | rfl | rfl | rfl | rfl <;> rfl
 ·have : ∃ x b, d = .tup [.str x, .bool b] := by
   simp only [D2, List.mem_cons, List.not_mem_nil, or_false] at hd
   rcases hd with rfl | rfl | rfl | rfl | rfl | rfl | rfl <;> exact ⟨_, _, rfl⟩
  obtain ⟨x, b, rfl⟩ := this
  have e8 := h.e8
  refine ⟨[none, some (.sh (.str x)), some (.sh (.bool b)), some (.sh (.exc C))], [none, some (.sh (.str x)), some (.sh (.bool b)), some (.sh (.exc C))], rfl, ?_, fun _ => ⟨.sh (.str x), _, rfl, rfl⟩⟩
  cases b with
  | true => show _ = Res.ok true _; repeat' (first|(with_reducible first|assumption|exact QO|exact QH|exact Qt|apply Qp|exact Co|exact Q5|apply QE|apply Xf|apply Qu|apply QK|apply QP|apply HE|apply Md|apply Mi|apply Ml|apply Ms|apply Mv|exact Mw)|exact (rfl : Qg _ = true)|exact (rfl : (_ : Option _) = some _)|decide)
  | false => show _ = Res.ok false _; repeat' (first|(with_reducible first|assumption|exact QO|exact QH|exact Qt|apply Qp|exact Co|exact Q5|apply QE|apply Xf|apply Qu|apply QK|apply QP|apply HE|apply Md|apply Mi|apply Ml|apply Ms|apply Mv|exact Mw)|exact (rfl : Qg _ = true)|exact (rfl : (_ : Option _) = some _)|decide)
theorem Kq (K : Frag) (C : Addr) (i : Nat) (hi : i < 7) (h : ExcI K C i) : Jz K [.exc C] = .ok (E0 (E5 i)) := by
 have hc := GS K C i hi h
 generalize E5 i = w at hc
 obtain ⟨e1, e2, e3, e4, e5, e6, e7, e8, m⟩ := h
 unfold D2 at hc
 generalize (i == 0) = b0 at *
 generalize (i == 1) = b1 at *
 generalize (i == 2) = b2 at *
 generalize (i == 3) = b3 at *
 generalize (i == 4) = b4 at *
 generalize (i == 5) = b5 at *
 generalize (i == 6) = b6 at *
 have a1 : Xg (.list [.tup [.str "bells", .bool b0], .tup [.str "row", .bool b1], .tup [.str "change", .bool b2]]) (.list [.tup [.str "method", .bool b3], .tup [.str "call", .bool b4]]) = some (.ow true (.list [.tup [.str "bells", .bool b0], .tup [.str "row", .bool b1], .tup [.str "change", .bool b2], .tup [.str "method", .bool b3], .tup [.str "call", .bool b4]])) := rfl
 have a2 : Xg (.list [.tup [.str "bells", .bool b0], .tup [.str "row", .bool b1], .tup [.str "change", .bool b2], .tup [.str "method", .bool b3], .tup [.str "call", .bool b4]]) (.list [.tup [.str "count", .bool b5], .tup [.str "text", .bool b6]]) = some (.ow true (.list [.tup [.str "bells", .bool b0], .tup [.str "row", .bool b1], .tup [.str "change", .bool b2], .tup [.str "method", .bool b3], .tup [.str "call", .bool b4], .tup [.str "count", .bool b5], .tup [.str "text", .bool b6]])) := rfl
 have a3 : YD [.list [.str w]] = some (.sh (.int 1)) := XA (by simp)
 have a4 := VI 1
 unfold Jz KS E0
 refine' QU [some (.sh (.exc C)), none, none] rfl rfl ?_ Q0
 repeat' (first|(with_reducible first|assumption|exact QO|exact Zl|exact Lu|exact Wl|exact Zb|exact QH|exact Qt|apply Qp|exact Zz|apply X8|apply ZM|exact K7|exact XX|apply Zj|exact Xk|exact QL|exact QY|exact Q5|apply Qn|apply QE|apply XD|apply ZH|apply QT|apply Qu|apply QK|apply QV|apply ZN|apply XJ|apply QG|apply XM|apply Qq|apply Q2|apply QS|apply Q7|apply Md|apply Mg|apply Mi|apply Ml|apply Mo|apply Mp|apply Mq|apply Mr|apply Mz|apply MA|apply MJ|apply MR|apply MV|apply MM|exact MN|apply MP|exact il0)|exact (rfl : Qg _ = true)|apply JT rfl|exact (rfl : (_ : Option _) = some _)|decide)
theorem Iz : PyData.strOk "call" = true := by decide +kernel
theorem FG (x : Str) (hx : PyData.strOk x = true) : eqI (.list [.str "refused", .str x]) (.list [.str "refused", .str x]) = some (.sh (.bool true)) := Dg (Ia x "refused" hx EE)
end Mine
end

section
set_option Elab.async false
set_option maxRecDepth 100000
set_option maxHeartbeats 4000000
set_option linter.unusedSimpArgs false
set_option linter.unusedVariables false
namespace Mine
open PySem PySem.W
noncomputable def Qi (l : List (List Int)) : List D := l.map fun a => D.tup (iL a)
noncomputable def chD (chs : List (List Nat)) : List D := chs.map fun c => D.tup (nD c)
noncomputable def X2 (a : List Int) : List (List Nat) → List (List Int)
 | [] => [a]
 | c :: cs => a :: X2 (rung a c) cs
theorem O4 (chs : List (List Nat)) : ∀ a, (X2 a chs).length = chs.length + 1 := by
 induction chs with
 | nil => intro a; rfl
 | cons c cs ih => intro a; rw [X2, List.length_cons, ih, List.length_cons]
theorem QJ (l : List (List Int)) : (Qi l).length = l.length := by unfold Qi; simp
structure Chs (n : Nat) (chs : List (List Nat)) : Prop where
 h3 : 3 ≤ n
 h12 : n ≤ 12
 len : chs.length ≤ 30
 all : ∀ c ∈ chs, Change n c
noncomputable def mth (n : Nat) (chs ws : List (List Nat)) : D := .obj 285 ["bells", "steps", "ways"] [.int n, .list (chD chs), .list (chD ws)]
theorem UY {l : List (List Int)} {a : List Int} (hl : l.length ≤ 1000) : Xn (.list (Qi (l ++ [a]))) (.int (-1)) = some (.sh (.tup (iL a))) := by
 have := Ge (ds := Qi l) (d := .tup (iL a)) (by rw [QJ]; exact hl)
 rw [show Qi (l ++ [a]) = Qi l ++ [.tup (iL a)] from List.map_append]
 exact this
theorem Jp (l : List (List Int)) (a : List Int) : Qi l ++ [.tup (iL a)] = Qi (l ++ [a]) := by unfold Qi; rw [List.map_append]; rfl
theorem GF (K : Frag) {n : Nat} {dself dhead : D} (hn : n ≤ 12) (chs : List (List Nat)) : (∀ c ∈ chs, Change n c) → chs.length ≤ 100 → ∀ (pre : List (List Int)) (a : List Int) (v : Option T), a.length = n → pre.length + chs.length ≤ 200 →
  ∃ v', Xs (QF 3) (Qo (XF (Qc (Za 2 (QA (J7 K) (Qb (Qc (Qr Xn (eOp 2) (Qc (Jq Jl (Qc (Qd (.int 1))))))) (Qb (eOp 3) Qj)))))) Qy) (chD chs) [some (.sh dself), some (.sh dhead), some (.ow true (.list (Qi (pre ++ [a])))), v] = .ok .next [some (.sh dself), some (.sh dhead), some (.ow true (.list (Qi (pre ++ X2 a chs)))), v'] := by
 induction chs with
 | nil => intro hc hl pre a v ha hp; exact ⟨v, rfl⟩
 | cons c cs ih =>
  intro hc hl pre a v ha hp
  rw [List.length_cons] at hl hp
  have hcc := hc c (.head _)
  have e1 := K4 K ha hn hcc.ok
  have e2 := UY (l := pre) (a := a) (by exact omP hp)
  have hlen : (Qi (pre ++ [a])).length ≤ 1000000 := by rw [QJ, List.length_append]; simp; exact omP hp
  have e3 : Jl (.int 1) = some (.sh (.int (-1))) := rfl
  obtain ⟨v', h⟩ := ih (fun x hx => hc x (.tail _ hx)) (by exact omL hl) (pre ++ [a]) (rung a c) (some (.sh (.tup (nD c)))) (by rw [Od]; exact ha) (by rw [List.length_append]; simp; exact omS hp)
  refine ⟨v', ?_⟩
  rw [show X2 a (c :: cs) = [a] ++ X2 (rung a c) cs from rfl, ← List.append_assoc]
  rw [← Jp (pre ++ [a])] at h
  show Xs _ _ (D.tup (nD c) :: chD cs) _ = _
  repeat' (first|(with_reducible first|assumption|exact QO|exact Zb|exact Yw|exact QH|exact Qt|apply Qp|apply Yz|exact Xk|exact Qz|apply Qn|apply QB|apply ZH|apply Qu|apply QC|apply Z1|apply Zq|apply Qq|apply Xh|apply Md|apply Mf|apply Mg|apply Mj|apply Ml|apply Mm|apply MT|apply MM|apply QZ|apply Xo|apply MZ)|exact Q6 rfl|exact (rfl : Qg _ = true)|exact (rfl : (_ : Option _) = some _)|decide)
theorem BV (K : Frag) {n : Nat} {dhead dinner : D} (hn : n ≤ 12) (chs : List (List Nat)) : (∀ c ∈ chs, Change n c) → chs.length ≤ 100 → ∀ (pre : List (List Int)) (a : List Int) (v : Option T), a.length = n → pre.length + chs.length ≤ 200 →
  ∃ v', Xs (QF 3) (Qo (XF (Qc (Za 2 (QA (Yx K) (Qb (Qc (Qr Xn (eOp 2) (Qc (Jq Jl (Qc (Qd (.int 1))))))) (Qb (eOp 3) Qj)))))) Qy) (chD chs) [some (.sh dhead), some (.sh dinner), some (.ow true (.list (Qi (pre ++ [a])))), v] = .ok .next [some (.sh dhead), some (.sh dinner), some (.ow true (.list (Qi (pre ++ X2 a chs)))), v'] := by
 induction chs with
 | nil => intro hc hl pre a v ha hp; exact ⟨v, rfl⟩
 | cons c cs ih =>
  intro hc hl pre a v ha hp
  rw [List.length_cons] at hl hp
  have hcc := hc c (.head _)
  have e1 := Ku K ha hn hcc.ok
  have e2 := UY (l := pre) (a := a) (by exact omP hp)
  have hlen : (Qi (pre ++ [a])).length ≤ 1000000 := by rw [QJ, List.length_append]; simp; exact omP hp
  have e3 : Jl (.int 1) = some (.sh (.int (-1))) := rfl
  obtain ⟨v', h⟩ := ih (fun x hx => hc x (.tail _ hx)) (by exact omL hl) (pre ++ [a]) (rung a c) (some (.sh (.tup (nD c)))) (by rw [Od]; exact ha) (by rw [List.length_append]; simp; exact omS hp)
  refine ⟨v', ?_⟩
  rw [show X2 a (c :: cs) = [a] ++ X2 (rung a c) cs from rfl, ← List.append_assoc]
  rw [← Jp (pre ++ [a])] at h
  show Xs _ _ (D.tup (nD c) :: chD cs) _ = _
  repeat' (first|(with_reducible first|assumption|exact QO|exact Zb|exact Yw|exact QH|exact Qt|apply Qp|apply Yz|exact Xk|exact Qz|apply Qn|apply QB|apply ZH|apply Qu|apply QC|apply Z1|apply Zq|apply Qq|apply Xh|apply Md|apply Mf|apply Mg|apply Mj|apply Ml|apply Mm|apply MT|apply MM|apply QZ|apply Xo|apply MZ)|exact Q6 rfl|exact (rfl : Qg _ = true)|exact (rfl : (_ : Option _) = some _)|decide)
theorem WT (K : Frag) {n : Nat} {a : List Int} {chs ws : List (List Nat)} (ra : Row n a) : QI K [mth n chs ws, .tup (iL a)] = .ok (.sh .none) := by
 have e1 := KU K ra
 have e2 := U3 (ds := iL a) (by rw [Q3, ra.len]; have := ra.h12; exact omB this)
 rw [Q3, ra.len] at e2
 have e3 := LH (n : Int)
 unfold QI Zw
 refine' QU [some (.sh (mth n chs ws)), some (.sh (.tup (iL a)))] rfl rfl ?_ U8
 unfold mth
 repeat' (first|(with_reducible first|assumption|exact QO|exact QH|exact Qt|apply Qp|exact Fq|exact Xi|exact Qz|apply Qn|apply QT|apply Qu|apply QK|apply QC|apply QP|apply Xp|apply XR|apply Qq|apply Q2|apply J1|apply Md|apply Mi|apply Mj|apply Ms|apply Mz|apply MA|exact Mt|apply My|apply MM|apply MQ)|exact Q6 rfl|exact (rfl : Qg _ = true)|exact (rfl : (_ : Option _) = some _)|decide)
theorem YQ (K : Frag) {n : Nat} {d : D} {chs ws : List (List Nat)} (h : Ym K [d] = .ok (.sh (.bool false))) : QI K [mth n chs ws, d] = .exc 56 := by
 unfold QI Zw
 refine' QU [some (.sh (mth n chs ws)), some (.sh d)] rfl rfl ?_ Z9
 unfold mth
 repeat' (first|(with_reducible first|assumption|exact QO|exact QH|exact Qt|apply Qp|exact XX|apply Zj|exact QL|exact QY|apply Qn|apply Qu|apply QC|apply QV|apply QP|apply Xp|apply XR|apply Qq|apply Q2|apply ZI|apply Md|apply Mj|apply Mo|apply Mp|apply Ms|exact Mu|exact Mx|exact MO|apply MP)|exact Q6 rfl|exact (rfl : Qg _ = true)|exact (rfl : (_ : Option _) = some _)|decide)
theorem Vx (K : Frag) {n : Nat} {ds : List D} {chs ws : List (List Nat)} (h : Ym K [.tup ds] = .ok (.sh (.bool true))) (hl : ds.length ≤ 1000000) (hn : ds.length ≠ n) : QI K [mth n chs ws, .tup ds] = .exc 56 := by
 have e2 := U3 (ds := ds) hl
 have e3 := LB (a := (ds.length : Int)) (b := (n : Int)) (by exact fun e => hn (Int.ofNat.inj e))
 unfold QI Zw
 refine' QU [some (.sh (mth n chs ws)), some (.sh (.tup ds))] rfl rfl ?_ Z9
 unfold mth
 repeat' (first|(with_reducible first|assumption|exact QO|exact QH|exact Qt|apply Qp|exact XX|apply Zj|exact Fq|exact QL|exact QY|apply Qn|apply QT|apply Qu|apply QK|apply QC|apply QV|apply QP|apply Xp|apply XR|apply Qq|apply Q2|apply ZI|apply J1|apply Md|apply Mi|apply Mj|apply Mo|apply Mp|apply Ms|apply Mz|apply MA|exact Mt|exact Mx|apply My|exact MO|apply MP)|exact Q6 rfl|exact (rfl : Qg _ = true)|exact (rfl : (_ : Option _) = some _)|decide)
theorem OL (K : Frag) {n : Nat} {a : List Int} {chs ws : List (List Nat)} (ra : Row n a) (hc : Chs n chs) : Zk K [mth n chs ws, .tup (iL a)] = .ok (.ow true (.list (Qi (X2 a chs)))) := by
 have e1 := WT K (chs := chs) (ws := ws) ra
 obtain ⟨v', h⟩ := GF K (dself := mth n chs ws) (dhead := .tup (iL a)) ra.h12 chs hc.all (by have := hc.len; exact omB this) [] a none ra.len (by have := hc.len; simp; exact omB this)
 have h : Xs (QF 3) _ (chD chs) [some (.sh (mth n chs ws)), some (.sh (.tup (iL a))), some (.ow true (.list [.tup (iL a)])), none] = .ok .next [some (.sh (mth n chs ws)), some (.sh (.tup (iL a))), some (.ow true (.list (Qi (X2 a chs)))), v'] := h
 have e2 : X0 (.list (chD chs)) = some (chD chs) := rfl
 unfold Zk UL
 refine' QU [some (.sh (mth n chs ws)), some (.sh (.tup (iL a))), none, none] rfl rfl ?_ Q0
 unfold mth at *
 repeat' (first|(with_reducible first|assumption|exact QO|exact Zb|exact Qt|apply Qp|exact XX|apply Zj|exact W4|exact QY|apply Qn|apply Qu|apply QV|apply XJ|apply QG|apply Qq|apply Xh|apply Q7|apply Q9|apply J1|apply Uk|apply Md|apply Mo|apply Mp|apply Mr|apply MJ|apply MT|apply MV|apply MW|apply MM|exact MN|apply M2)|exact Q6 rfl|exact (rfl : Qg _ = true)|exact QN rfl|exact J6 rfl|exact (rfl : (_ : Option _) = some _)|decide)
theorem Kn (K : Frag) {n : Nat} {a : List Int} {chs : List (List Nat)} (ha : a.length = n) (hc : Chs n chs) : Yb K [.tup (iL a), .list (chD chs)] = .ok (.ow true (.list (Qi (X2 a chs)))) := by
 obtain ⟨v', h⟩ := BV K (dhead := .tup (iL a)) (dinner := .list (chD chs)) hc.h12 chs hc.all (by have := hc.len; exact omB this) [] a none ha (by have := hc.len; simp; exact omB this)
 have h : Xs (QF 3) _ (chD chs) [some (.sh (.tup (iL a))), some (.sh (.list (chD chs))), some (.ow true (.list [.tup (iL a)])), none] = .ok .next [some (.sh (.tup (iL a))), some (.sh (.list (chD chs))), some (.ow true (.list (Qi (X2 a chs)))), v'] := h
 have e2 : X0 (.list (chD chs)) = some (chD chs) := rfl
 unfold Yb KT
 refine' QU [some (.sh (.tup (iL a))), some (.sh (.list (chD chs))), none, none] rfl rfl ?_ Q0
 repeat' (first|(with_reducible first|assumption|exact QO|exact Zb|exact XX|apply Zj|exact QY|apply QV|apply XJ|apply QG|apply Qq|apply Q7|apply Q9|apply Mo|apply Mp|apply Mr|apply MJ|apply MV|apply MW|apply MM|exact MN)|exact (rfl : Qg _ = true)|exact QN rfl|exact J6 rfl|exact (rfl : (_ : Option _) = some _)|decide)
theorem Le {ρ : AEnv} (h : Vl ρ = true) : YE [] ρ = some [] := if_pos h
theorem C8 {ρ ρ₁ : AEnv} {n : Str} {f : AEnv → Res T} {fs : List (Str × (AEnv → Res T))} {t : T} {d : D} {ds : List D} (h : Vl ρ = true) (hf : f ρ = .ok t ρ₁) (hv : t.val = d) (hr : YE fs ρ₁ = some ds) : YE ((n, f) :: fs) ρ = some (d :: ds) := by
 subst hv
 refine (if_pos h).trans ?_
 conv => lhs; rw [hf]; whnf; rw [hr]
theorem Hp {n : Nat} {is : List Nat} {i₀ : Nat} {f : AEnv → Res Fl} {ts : List (Str × (AEnv → Res T))} {x : Addr} {ds es : List D} {ρ ρ₁ : AEnv} (hl : ds.length + 1 = is.length) (hi : Bq n is (.glob (.ref x) :: ds) = ρ) (h : f ρ = .ok .next ρ₁) (hs : ρ₁[i₀]? = some (some (.sh (.glob (.ref x))))) (ht : YE ts ρ₁ = some es) : DN n is i₀ f ts x ds = .ok es := by
 subst hi
 refine (if_pos hl).trans ?_
 conv => lhs; whnf; rw [h]; whnf; rw [hs]
 refine (if_pos rfl).trans ?_
 conv => lhs; rw [ht]
theorem X6 (l : List (List Nat)) : (chD l).length = l.length := by unfold chD; simp
theorem Gl (K : Frag) {n : Nat} (h12 : n ≤ 12) {a b c : D} {chs : List (List Nat)} (h : ∀ x ∈ chs, Change n x) : ∀ v₀, IK v₀ = true → ∃ v, IK v = true ∧ Xs (QF 4) (Qo (XF (Qc (QA (ZT K) (Qb (eOp 1) (Qb (eOp 4) Qj))))) Qy) (chD chs) [some (.sh a), some (.sh (.int n)), some (.sh b), some (.sh c), v₀] = .ok .next [some (.sh a), some (.sh (.int n)), some (.sh b), some (.sh c), v] := by
 induction chs with
 | nil => intro v₀ hv; exact ⟨v₀, hv, rfl⟩
 | cons x xs ih =>
  intro v₀ _
  have e1 := O6 K (h x (.head _)) h12
  obtain ⟨v, h1, h2⟩ := ih (fun y hy => h y (.tail _ hy)) (some (.sh (.tup (nD x)))) rfl
  refine ⟨v, h1, ?_⟩
  show Xs _ _ (D.tup (nD x) :: chD xs) _ = _
  repeat' (first|(with_reducible first|assumption|exact QO|exact Uw|exact Qt|apply Qp|exact Qz|apply Qn|apply QE|apply Qu|apply QC|apply Qq|apply Xh|apply Md|apply Mj|apply Ml|apply MT|apply MM|apply QZ|apply Xo|apply MZ)|exact Q6 rfl|exact (rfl : Qg _ = true)|exact (rfl : (_ : Option _) = some _)|decide)
theorem Y3 (K : Frag) (ds : List D) : Q1 K [.list ds, .glob (.type "list")] = some (.sh (.bool true)) := by kernel_rfl
theorem YW {ds : List D} (h : ds.length ≤ 1000000) : Yv [.list ds] = some (.ow true (.list ds)) := Ih h
theorem DP (K : Frag) {n : Nat} {chs ws : List (List Nat)} (hc : Chs n chs) (hw : ∀ c ∈ ws, Change n c) (h1 : 1 ≤ ws.length) (h4 : ws.length ≤ 4) : Vs (U5 K) [.int n, .list (chD chs), .list (chD ws)] = .ok [.int n, .list (chD chs), .list (chD ws)] := by
 refine Im fun x => ?_
 have e1 := Wt K n (by have := hc.h3; exact Int.ofNat_le.mpr this) (by have := hc.h12; exact Int.ofNat_le.mpr this)
 have e2 := Y3 K (chD chs)
 have e3 := Y3 K (chD ws)
 have e4 := XA (ds := chD chs) (by rw [X6]; have := hc.len; exact omB this)
 have e5 := XA (ds := chD ws) (by rw [X6]; exact omB h4)
 rw [X6] at e4 e5
 have e6 := VN (a := (chs.length : Int)) (b := 30) (by have := hc.len; exact omN this)
 have e7 := WE (a := 1) (b := (ws.length : Int)) (by exact Int.ofNat_le.mpr h1)
 have e8 := WE (a := (ws.length : Int)) (b := 4) (by exact Int.ofNat_le.mpr h4)
 have e9 : Xg (.list (chD chs)) (.list (chD ws)) = some (.ow true (.list (chD (chs ++ ws)))) := by
  rw [Wq (by rw [X6, X6]; have := hc.len; exact Nat.le_trans (Nat.add_le_add this h4) (by decide))]
  unfold chD; rw [List.map_append]
 obtain ⟨v, hv, h⟩ := Gl K (a := .glob (.ref x)) (b := .list (chD chs)) (c := .list (chD ws)) hc.h12 (chs := chs ++ ws) (fun c hcm => (List.mem_append.mp hcm).elim (hc.all c) (hw c)) none rfl
 have e10 : X0 (.list (chD (chs ++ ws))) = some (chD (chs ++ ws)) := rfl
 have e11 := YW (ds := chD chs) (by rw [X6]; have := hc.len; exact omB this)
 have e12 := YW (ds := chD ws) (by rw [X6]; exact omB h4)
 have sh : Vl [some (.sh (.glob (.ref x))), some (.sh (.int n)), some (.sh (.list (chD chs))), some (.sh (.list (chD ws))), v] = true := by
  show (true && (true && (true && (true && (IK v && true))))) = true
  rw [hv]; rfl
 unfold U5 UT UP
 refine' Hp (ρ := [some (.sh (.glob (.ref x))), some (.sh (.int n)), some (.sh (.list (chD chs))), some (.sh (.list (chD ws))), none]) (ρ₁ := [some (.sh (.glob (.ref x))), some (.sh (.int n)), some (.sh (.list (chD chs))), some (.sh (.list (chD ws))), v]) rfl rfl ?_ rfl ?_
 ·repeat' (first|(with_reducible first|assumption|exact QO|exact Zl|exact QH|exact Qt|apply Qp|exact Xk|exact Xi|exact Qz|exact Q5|apply Qn|apply QE|apply ZH|apply QT|apply Xf|apply Qu|apply QK|apply QC|apply QP|apply Xp|apply XR|apply ZB|apply QG|apply Qq|apply Q2|apply Xh|apply Q9|apply Md|apply Mg|apply Mi|apply Mj|apply Ml|apply Ms|apply Mz|apply MA|apply MB|apply ME|apply MF|apply MJ|apply MT|apply MW|exact Mt|apply My|apply MC|apply MM|apply MQ)|exact Q6 rfl|exact (rfl : Qg _ = true)|exact QN rfl|exact (rfl : (_ : Option _) = some _)|decide)
 ·refine' C8 sh (ρ₁ := [some (.sh (.glob (.ref x))), some (.sh (.int n)), some (.sh (.list (chD chs))), some (.sh (.list (chD ws))), v]) ?_ QO (C8 sh (ρ₁ := [some (.sh (.glob (.ref x))), some (.sh (.int n)), some (.sh (.list (chD chs))), some (.sh (.list (chD ws))), v]) ?_ Zl (C8 sh (ρ₁ := [some (.sh (.glob (.ref x))), some (.sh (.int n)), some (.sh (.list (chD chs))), some (.sh (.list (chD ws))), v]) ?_ Zl (Le sh)))
  ·exact QN rfl
  ·repeat' (first|(with_reducible first|assumption|exact QO|exact Zl|exact QH|exact Qt|apply Qp|exact Xk|exact Xi|exact Qz|exact Q5|apply Qn|apply QE|apply ZH|apply QT|apply Xf|apply Qu|apply QK|apply QC|apply QP|apply Xp|apply XR|apply ZB|apply QG|apply Qq|apply Q2|apply Xh|apply Q9|apply Md|apply Mg|apply Mi|apply Mj|apply Ml|apply Ms|apply Mz|apply MA|apply MB|apply ME|apply MF|apply MJ|apply MT|apply MW|exact Mt|apply My|apply MC|apply MM|apply MQ)|exact Q6 rfl|exact (rfl : Qg _ = true)|exact QN rfl|exact (rfl : (_ : Option _) = some _)|decide)
  ·repeat' (first|(with_reducible first|assumption|exact QO|exact Zl|exact QH|exact Qt|apply Qp|exact Xk|exact Xi|exact Qz|exact Q5|apply Qn|apply QE|apply ZH|apply QT|apply Xf|apply Qu|apply QK|apply QC|apply QP|apply Xp|apply XR|apply ZB|apply QG|apply Qq|apply Q2|apply Xh|apply Q9|apply Md|apply Mg|apply Mi|apply Mj|apply Ml|apply Ms|apply Mz|apply MA|apply MB|apply ME|apply MF|apply MJ|apply MT|apply MW|exact Mt|apply My|apply MC|apply MM|apply MQ)|exact Q6 rfl|exact (rfl : Qg _ = true)|exact QN rfl|exact (rfl : (_ : Option _) = some _)|decide)
theorem Jh (k : List Int) (r : List (List Int)) : ∀ l : List (List Int), QM k (l ++ r) = match QM k l with | some j => some j | none => (QM k r).map (· + l.length)
 | [] => by show QM k r = (QM k r).map _; cases QM k r <;> rfl
 | x :: l => by
  rw [List.cons_append, QM, QM, Jh k r l]
  split
  ·rfl
  ·cases QM k l with
   | some j => rfl
   | none =>
    cases QM k r with
    | none => rfl
    | some j => simp only [Option.map_some, Option.map_none, List.length_cons, Nat.add_assoc]
theorem VO {k : List Int} {l : List (List Int)} {j : Nat} (h : QM k l = some j) : j < l.length := (List.getElem?_eq_some_iff.mp (W8 h)).1
structure DInv (P ks : List (List Int)) (ds : List D) : Prop where
 len : ks.length = ds.length
 le : ks.length ≤ P.length
 at_ : ∀ k, (QM k ks).bind (fun j => ds[j]?) = (QM k P).map fun (i : Nat) => D.int i
theorem DInv.hit {P ks : List (List Int)} {ds : List D} (q : DInv P ks ds) {k : List Int} {j : Nat} (h : QM k ks = some j) : ∃ i, QM k P = some i ∧ ds[j]? = some (.int (i : Nat)) := by
 have e := q.at_ k
 rw [h] at e
 have hj : j < ds.length := by rw [← q.len]; exact VO h
 simp only [Option.bind_some] at e
 rw [List.getElem?_eq_getElem hj] at e
 obtain ⟨i, h1, h2⟩ := Option.map_eq_some_iff.mp e.symm
 exact ⟨i, h1, by rw [List.getElem?_eq_getElem hj, h2]⟩
theorem DInv.miss {P ks : List (List Int)} {ds : List D} (q : DInv P ks ds) {k : List Int} (h : QM k ks = none) : QM k P = none := by
 have e := q.at_ k
 rw [h] at e
 cases hk : QM k P with
 | none => rfl
 | some i => rw [hk] at e; cases e
theorem DInv.old {P ks : List (List Int)} {ds : List D} (q : DInv P ks ds) {a : List Int} {j : Nat} (h : QM a ks = some j) : DInv (P ++ [a]) ks ds := by
 obtain ⟨i, h1, _⟩ := q.hit h
 refine ⟨q.len, by rw [List.length_append]; have := q.le; exact Nat.le_succ_of_le this, fun k => ?_⟩
 rw [q.at_ k, Jh]
 cases hk : QM k P with
 | some i => rfl
 | none =>
  by_cases hka : a = k
  ·subst hka; rw [h1] at hk; cases hk
  ·simp only [QM, if_neg hka, Option.map_none]
theorem DInv.new {P ks : List (List Int)} {ds : List D} (q : DInv P ks ds) {a : List Int} (h : QM a ks = none) : DInv (P ++ [a]) (ks ++ [a]) (ds ++ [.int (P.length : Nat)]) := by
 have hp := q.miss h
 refine ⟨by rw [List.length_append, List.length_append, q.len]; rfl, by rw [List.length_append, List.length_append]; have := q.le; simp; omega, fun k => ?_⟩
 rw [Jh, Jh]
 cases hk : QM k ks with
 | some j =>
  obtain ⟨i, h1, h2⟩ := q.hit hk
  rw [h1]
  simp only [Option.bind_some, Option.map_some]
  rw [List.getElem?_append_left (by rw [← q.len]; exact VO hk), h2]
 | none =>
  rw [q.miss hk]
  by_cases hka : a = k
  ·subst hka
   simp only [QM, if_pos, Option.map_some, Nat.zero_add, Option.bind_some]
   rw [q.len, List.getElem?_append_right (Nat.le_refl _), Nat.sub_self]; rfl
  ·simp only [QM, if_neg hka, Option.map_none, Option.bind_none]
noncomputable def Zh (x : Nat × Nat) : D := .tup [.int x.1, .int x.2]
noncomputable def UZ : Option (Nat × Nat) → D
 | none => .none
 | some x => Zh x
noncomputable def OY (B : List (List Int)) : Nat → List (List Int) → Option (Nat × Nat)
 | _, [] => none
 | p, a :: r => match QM a B with
  | some j => some (p, j)
  | none => OY B (p + 1) r
noncomputable def enF (p : Nat) (l : List (List Int)) : List D := ((Qi l).zipIdx p).map fun x => D.tup [.int x.2, x.1]
theorem Og (p : Nat) (a : List Int) (l : List (List Int)) : enF p (a :: l) = .tup [.int p, .tup (iL a)] :: enF (p + 1) l := by
 unfold enF Qi; rw [List.map_cons, List.zipIdx_cons, List.map_cons]
theorem V6 (l : List (List Int)) : JW (Qi l) = enF 0 l := rfl
theorem ZZ (a : List Int) : Z6 (.tup (iL a)) = some a := Gx a
theorem GE (K : Frag) {x0 x1 : D} : ∀ (rest P ks : List (List Int)) (ds : List D) (v3 v4 : Option T), DInv P ks ds → P.length + rest.length ≤ 1000 → ∃ ks' ds' v3' v4', DInv (P ++ rest) ks' ds' ∧
  Xs (ZD [3, 4]) (Qo (XF (Qc (UF 2 (eOp 4) (eOp 3)))) Qy) (enF P.length rest) [some (.sh x0), some (.sh x1), some (.ow true (.dict ks ds)), v3, v4] = .ok .next [some (.sh x0), some (.sh x1), some (.ow true (.dict ks' ds')), v3', v4'] := by
 intro rest
 induction rest with
 | nil => intro P ks ds v3 v4 q _; exact ⟨ks, ds, v3, v4, by rw [List.append_nil]; exact q, rfl⟩
 | cons a r ih =>
  intro P ks ds v3 v4 q hl
  rw [List.length_cons] at hl
  rw [Og]
  have hks : ks.length ≤ 1000000 := by have := q.le; lia
  have hrow := ZZ a
  cases hk : QM a ks with
  | some j =>
   obtain ⟨i, h1, h2⟩ := q.hit hk
   obtain ⟨ks', ds', v3', v4', q', h⟩ := ih (P ++ [a]) ks ds (some (.sh (.int P.length))) (some (.sh (.tup (iL a)))) (q.old hk) (by rw [List.length_append]; simp; exact omS hl)
   rw [show (P ++ [a]).length = P.length + 1 by simp] at h
   refine ⟨ks', ds', v3', v4', by rw [List.append_assoc] at q'; exact q', ?_⟩
   have hs : UF 2 (eOp 4) (eOp 3) [some (.sh x0), some (.sh x1), some (.ow true (.dict ks ds)), some (.sh (.int P.length)), some (.sh (.tup (iL a)))] = .ok (.sh (.int i)) [some (.sh x0), some (.sh x1), some (.ow true (.dict ks ds)), some (.sh (.int P.length)), some (.sh (.tup (iL a)))] :=
    E6 (JY rfl hks) rfl rfl rfl rfl rfl (JY rfl hks) hrow hk h2
   repeat' (first|(with_reducible first|assumption|exact QO|exact Yw|exact Uw|exact Qz|apply Qu|apply Qq|apply Xh|apply JY|apply X1|apply Md|apply MT|apply MM|apply QZ|apply MZ)|exact (rfl : Qg _ = true)|exact (rfl : (_ : Option _) = some _)|decide)
  | none =>
   obtain ⟨ks', ds', v3', v4', q', h⟩ := ih (P ++ [a]) (ks ++ [a]) (ds ++ [.int (P.length : Nat)]) (some (.sh (.int P.length))) (some (.sh (.tup (iL a)))) (q.new hk) (by rw [List.length_append]; simp; exact omS hl)
   rw [show (P ++ [a]).length = P.length + 1 by simp] at h
   refine ⟨ks', ds', v3', v4', by rw [List.append_assoc] at q'; exact q', ?_⟩
   have hs : UF 2 (eOp 4) (eOp 3) [some (.sh x0), some (.sh x1), some (.ow true (.dict ks ds)), some (.sh (.int P.length)), some (.sh (.tup (iL a)))] = .ok (.sh (.int P.length)) [some (.sh x0), some (.sh x1), some (.ow true (.dict (ks ++ [a]) (ds ++ [.int (P.length : Nat)]))), some (.sh (.int P.length)), some (.sh (.tup (iL a)))] :=
    E8 (JY rfl hks) rfl rfl rfl rfl rfl (JY rfl hks) hrow hk rfl
   repeat' (first|(with_reducible first|assumption|exact QO|exact Yw|exact Uw|exact Qz|apply Qu|apply Qq|apply Xh|apply JY|apply X1|apply Md|apply MT|apply MM|apply QZ|apply MZ)|exact (rfl : Qg _ = true)|exact (rfl : (_ : Option _) = some _)|decide)
theorem GB (K : Frag) {x0 x1 : D} {B ks : List (List Int)} {ds : List D} (q : DInv B ks ds) : ∀ (rest : List (List Int)) (p : Nat) (v3 v4 : Option T), ∃ ρ,
  Xs (ZD [3, 4]) (Qo (sIf (BN false (eOp 4) 2) (Qo (XS (YK (Qw (Xe 3) (Qw (WQ 2 (eOp 4)) Xv)))) Qy) Qy) Qy) (enF p rest) [some (.sh x0), some (.sh x1), some (.ow true (.dict ks ds)), v3, v4] = (match OY B p rest with | some x => .ok (.ret (.sh (Zh x))) ρ | none => .ok .next ρ) := by
 intro rest
 induction rest with
 | nil => intro p v3 v4; exact ⟨_, rfl⟩
 | cons a r ih =>
  intro p v3 v4
  rw [Og]
  have hrow := ZZ a
  cases hk : QM a ks with
  | some j =>
   obtain ⟨i, h1, h2⟩ := q.hit hk
   rw [OY, h1]
   refine ⟨[some (.sh x0), some (.sh x1), some (.ow true (.dict ks ds)), some (.sh (.int p)), some (.sh (.tup (iL a)))], ?_⟩
   have e1 : ((QM a ks).isSome != false) = true := by rw [hk]; rfl
   show _ = Res.ok (Fl.ret (T.sh (.tup [.int (p : Nat), .int (i : Nat)]))) _
   repeat' (first|(with_reducible first|assumption|exact QO|exact Yw|exact Uw|exact XX|apply Zj|exact QY|exact Qz|apply Xf|apply QV|apply ZN|apply Qq|apply Q2|apply QS|apply OJ|apply W1|apply WZ|apply X1|apply Mo|apply Mp|apply Mq|apply MR|apply MM|exact MN|apply MP|apply MQ|apply QZ|apply MZ|exact M0)|exact (rfl : Qg _ = true)|exact QN rfl|exact (rfl : (_ : Option _) = some _)|decide)
  | none =>
   rw [OY, q.miss hk]
   obtain ⟨ρ, h⟩ := ih (p + 1) (some (.sh (.int p))) (some (.sh (.tup (iL a))))
   refine ⟨ρ, ?_⟩
   have e1 : ((QM a ks).isSome != false) = false := by rw [hk]; rfl
   generalize (match OY B (p + 1) r with | some x => Res.ok (Fl.ret (.sh (Zh x))) ρ | none => .ok .next ρ) = X at h ⊢
   repeat' (first|(with_reducible first|assumption|exact QO|exact Yw|exact Uw|exact XX|apply Zj|exact QY|exact Qz|apply Xf|apply QV|apply ZN|apply Qq|apply Q2|apply QS|apply OJ|apply W1|apply WZ|apply X1|apply Mo|apply Mp|apply Mq|apply MR|apply MM|exact MN|apply MP|apply MQ|apply QZ|apply MZ|exact M0)|exact (rfl : Qg _ = true)|exact QN rfl|exact (rfl : (_ : Option _) = some _)|decide)
theorem D6 (K : Frag) (A B : List (List Int)) (hB : B.length ≤ 1000) : JJ K [.list (Qi A), .list (Qi B)] = .ok (.sh (UZ (OY B 0 A))) := by
 obtain ⟨ks, ds, v3, v4, q, h1⟩ := GE K (x0 := .list (Qi A)) (x1 := .list (Qi B)) B [] [] [] none none ⟨rfl, Nat.le_refl _, fun _ => rfl⟩ (by simpa using hB)
 obtain ⟨ρ, h2⟩ := GB K (x0 := .list (Qi A)) (x1 := .list (Qi B)) q A 0 v3 v4
 rw [List.nil_append] at h2
 rw [← V6] at h2
 have h1 : Xs (ZD [3, 4]) _ (JW (Qi B)) [some (.sh (.list (Qi A))), some (.sh (.list (Qi B))), some (.ow true (.dict [] [])), none, none] = .ok .next [some (.sh (.list (Qi A))), some (.sh (.list (Qi B))), some (.ow true (.dict ks ds)), v3, v4] := h1
 unfold JJ VK
 cases hm : OY B 0 A with
 | some x =>
  rw [hm] at h2
  simp only at h2
  show _ = FOut.ok (.sh (Zh x))
  refine' QU [some (.sh (.list (Qi A))), some (.sh (.list (Qi B))), none, none, none] rfl rfl ?_ Q0
  repeat' (first|(with_reducible first|assumption|exact QO|exact Zb|exact QL|apply W7|apply Qq|apply QS|apply Q9|apply W9|apply MR|apply MW|apply ML QO|apply ML Zl|apply MM|exact MN)|exact (rfl : Qg _ = true)|exact QN rfl|exact (rfl : (_ : Option _) = some _)|decide)
 | none =>
  rw [hm] at h2
  simp only at h2
  show _ = FOut.ok (.sh .none)
  refine' QU [some (.sh (.list (Qi A))), some (.sh (.list (Qi B))), none, none, none] rfl rfl ?_ Q0
  repeat' (first|(with_reducible first|assumption|exact QO|exact Zb|exact QL|apply W7|apply Qq|apply QS|apply Q9|apply W9|apply MR|apply MW|apply ML QO|apply ML Zl|apply MM|exact MN)|exact (rfl : Qg _ = true)|exact QN rfl|exact (rfl : (_ : Option _) = some _)|decide)
noncomputable def BQ (a : List Int) (same : Bool) (i : Nat) : Nat → List (List Int) → Option Nat
 | _, [] => none
 | p, b :: r => if a = b ∧ (same = false ∨ i < p) then some p else BQ a same i (p + 1) r
noncomputable def Wv (B : List (List Int)) (same : Bool) : Nat → List (List Int) → Option (Nat × Nat)
 | _, [] => none
 | i, a :: r => match BQ a same i 0 B with
  | some j => some (i, j)
  | none => Wv B same (i + 1) r
theorem OQ {l : List (List Int)} {i : Nat} {a : List Int} (h : l[i]? = some a) : (Qi l)[i]? = some (.tup (iL a)) := by unfold Qi; rw [List.getElem?_map, h]; rfl
theorem HG {l : List (List Int)} {i : Nat} {a : List Int} (h : l[i]? = some a) (hl : l.length ≤ 1000) : Xn (.list (Qi l)) (.int i) = some (.sh (.tup (iL a))) := by
 have : i < l.length := (List.getElem?_eq_some_iff.mp h).1
 exact Z2 (by exact Int.ofNat_nonneg _) (by exact omI this (omB hl)) (by rw [Int.toNat_natCast]; exact OQ h)
theorem Jv {α : Type} {l r : List α} {b : α} {p : Nat} (h : l.drop p = b :: r) : l[p]? = some b ∧ l.drop (p + 1) = r := by
 have h1 : (l.drop p)[0]? = some b := by rw [h]; rfl
 rw [List.getElem?_drop, Nat.add_zero] at h1
 refine ⟨h1, ?_⟩
 rw [← List.drop_drop, h]; rfl
theorem Je {m : Nat} (h : m ≤ 1000) : X0 (.range 0 m 1) = some (nL (List.range' 0 m)) := by
 rw [OX m (by exact omB h)]
 unfold iL rng nL
 rw [List.map_map, ← List.range_eq_range']; rfl
noncomputable def tp (a : List Int) : PyData := .tuple (a.map .int)
theorem Dj (a : List Int) : Wy (.tup (iL a)) = some (tp a) := Hs (WU a)
theorem Uh : ∀ l : List (List Int), YM (Qi l) = some (l.map tp)
 | [] => rfl
 | a :: l => by
  show YM (D.tup (iL a) :: Qi l) = _
  exact BA (Dj a) (Uh l)
theorem CY (a b : List Int) : PyData.eqv (tp a) (tp b) = decide (a = b) := WV a b
theorem OG (a : List Int) : SeqAt.shaped (tp a) = true := Kx a
theorem O9 : ∀ l : List (List Int), PyData.canLayAll0 (l.map tp) = true
 | [] => by simp [PyData.canLayAll0]
 | a :: l => by
  have := SeqAt.canLay_of_shaped (OG a)
  simp [PyData.canLayAll0, this, O9 l]
theorem VW : ∀ l : List (List Int), PyData.depthAll (l.map tp) ≤ 2
 | [] => by simp [PyData.depthAll]
 | a :: l => by
  have h1 := VW l
  have h2 := KJ a
  simp [PyData.depthAll, PyData.depth, tp]; lia
theorem UA (l : List (List Int)) : SeqAt.shaped (.list (l.map tp)) = true := by
 have := VW l
 unfold SeqAt.shaped
 simp [PyData.canLay0, O9, PyData.depth]; exact omB this
theorem IB (a : List Int) (l : List (List Int)) : inI (.tup (iL a)) (.list (Qi l)) = some (.sh (.bool (decide (a ∈ l)))) := by
 unfold inI Iv
 simp only [Uh, Dj, UA, OG, Bool.and_self, if_true, Option.map_some]
 congr 3
 rw [List.any_map]
 apply Bool.eq_iff_iff.mpr
 simp only [List.any_eq_true, Function.comp, CY, decide_eq_true_eq]
 exact ⟨fun ⟨x, h1, h2⟩ => h2 ▸ h1, fun h => ⟨a, h, rfl⟩⟩
theorem FN (a : List Int) (i : Nat) : ∀ (l : List (List Int)) (q : Nat), (JE (tp a) (i + 1 - q) (l.map tp)).map (· + q) = BQ a true i q l
 | [], q => by rw [List.map_nil, JE, BQ]; rfl
 | b :: l, q => by
  have ih := FN a i l (q + 1)
  rw [List.map_cons, BQ, ← ih]
  by_cases hq : i < q
  ·rw [show i + 1 - q = 0 by exact Nat.sub_eq_zero_of_le hq, show i + 1 - (q + 1) = 0 by lia, JE]
   by_cases hab : a = b
   ·subst hab
    rw [CY, if_pos (by simp), if_pos ⟨rfl, .inr hq⟩]
    simp
   ·rw [CY, if_neg (by simp; exact fun h => hab h.symm), if_neg (fun h => hab h.1), Option.map_map]
    congr 1; funext x; simp only [Function.comp]; exact Nat.succ_add _ _
  ·rw [show i + 1 - q = (i + 1 - (q + 1)) + 1 by lia, JE, if_neg (by rintro ⟨_, h | h⟩; cases h; exact hq h), Option.map_map]
   congr 1; funext x; simp only [Function.comp]; exact Nat.succ_add _ _
theorem VL (a : List Int) (i : Nat) : ∀ (l : List (List Int)) (q : Nat), (BQ a true i q l).isSome = decide (a ∈ l.drop (i + 1 - q))
 | [], q => by rw [BQ]; simp
 | b :: l, q => by
  have ih := VL a i l (q + 1)
  rw [BQ]
  by_cases hq : i < q
  ·rw [show i + 1 - q = 0 by exact Nat.sub_eq_zero_of_le hq, List.drop_zero]
   rw [show i + 1 - (q + 1) = 0 by lia, List.drop_zero] at ih
   by_cases hab : a = b
   ·subst hab; rw [if_pos ⟨rfl, .inr hq⟩]; simp
   ·rw [if_neg (fun h => hab h.1), ih]; simp [hab]
  ·rw [if_neg (by rintro ⟨_, h | h⟩; cases h; exact hq h), ih, show i + 1 - q = (i + 1 - (q + 1)) + 1 by lia, List.drop_succ_cons]
theorem HH {a : List Int} {A : List (List Int)} {p j : Nat} (h : BQ a true p 0 A = some j) (hA : A.length ≤ 1000) (hp : p ≤ 1000) : Ck [.list (Qi A), .tup (iL a), .int ((p : Int) + 1)] = some (.sh (.int j)) := by
 have e := FN a p A 0
 rw [h] at e
 unfold Ck
 simp only [Uh, Dj, UA, OG, Bool.and_self]
 rw [if_pos (by simp; lia), show ((p : Int) + 1).toNat = p + 1 - 0 by exact Int.toNat_natCast _]
 obtain ⟨x, h1, h2⟩ := Option.map_eq_some_iff.mp e
 rw [h1]
 simp only [Nat.add_zero] at h2
 subst h2; rfl
theorem Eo {A : List (List Int)} (h : A ≠ []) : (Qi A).all Fs = false := by
 cases A with
 | nil => exact absurd rfl h
 | cons a l => rfl
theorem F4 (K : Frag) {A : List (List Int)} (hA : A.length ≤ 1000) : ∀ (rest : List (List Int)) (p : Nat) (v1 v2 : Option T), A.drop p = rest → ∃ ρ,
  Xs (ZD [1, 2]) (Qo (sIf (Xl inI (eOp 2) (Qc (ZQ (eOp 0) (Jf (Qc (Qr Xg (eOp 1) (Qc (Qd (.int 1)))))) Zt))) (Qo (XS (YK (Qw (Xe 1) (Qw (CL Ck (eOp 0) (Qb (eOp 2) (Qb (Qc (Qr Xg (eOp 1) (Qc (Qd (.int 1))))) Qj))) Xv)))) Qy) Qy) Qy) (enF p rest) [some (.sh (.list (Qi A))), v1, v2] = (match Wv A true p rest with | some x => .ok (.ret (.sh (Zh x))) ρ | none => .ok .next ρ) := by
 intro rest
 induction rest with
 | nil => intro p v1 v2 _; exact ⟨_, rfl⟩
 | cons a r ih =>
  intro p v1 v2 hd
  obtain ⟨ha, hr⟩ := Jv hd
  have hp : p < A.length := (List.getElem?_eq_some_iff.mp ha).1
  rw [Og]
  have e1 : YB (.list (Qi A)) (some ((p : Int) + 1)) none = some (.ow true (.list (Qi (A.drop (p + 1))))) := by
   rw [JI (by rw [QJ]; exact omB hA), show ((p : Int) + 1) = ((p + 1 : Nat) : Int) by exact Int.natCast_add _ _, Ov (by rw [QJ]; assumption)]
   unfold Qi; rw [List.map_drop]
  have e2 := IB a (A.drop (p + 1))
  have e3 := VL a p A 0
  rw [Nat.sub_zero] at e3
  have e4 := Eo (A := A) (by rintro rfl; simp at hp)
  rw [Wv]
  cases hj : BQ a true p 0 A with
  | some j =>
   rw [hj] at e3
   rw [← e3] at e2
   have e2 : inI (.tup (iL a)) (.list (Qi (A.drop (p + 1)))) = some (.sh (.bool true)) := e2
   have e5 := HH hj hA (by exact omM hp hA)
   refine ⟨[some (.sh (.list (Qi A))), some (.sh (.int p)), some (.sh (.tup (iL a)))], ?_⟩
   show _ = Res.ok (Fl.ret (T.sh (.tup [.int (p : Nat), .int (j : Nat)]))) _
   repeat' (first|(with_reducible first|assumption|exact QO|exact Zl|exact X3|exact Wl|exact Zb|exact QH|exact Qt|apply Qp|exact XX|apply Zj|exact QX|exact QY|exact Zo|exact Qz|apply QE|apply QB|apply XD|apply Zn|apply Xf|apply Qu|apply QV|apply ZN|apply Yu|apply ZL|apply Qq|apply Q2|apply QS|apply DI|apply X1|apply Md|apply Ml|apply Mm|apply Mo|apply Mp|apply Mq|apply Mz|apply MR|apply MM|exact MN|apply MP|apply MQ|apply QZ|apply MZ|exact M0)|exact (rfl : Qg _ = true)|exact QN rfl|exact (rfl : (_ : Option _) = some _)|decide)
  | none =>
   rw [hj] at e3
   rw [← e3] at e2
   have e2 : inI (.tup (iL a)) (.list (Qi (A.drop (p + 1)))) = some (.sh (.bool false)) := e2
   obtain ⟨ρ, h⟩ := ih (p + 1) (some (.sh (.int p))) (some (.sh (.tup (iL a)))) hr
   refine ⟨ρ, ?_⟩
   show _ = (match Wv A true (p + 1) r with | some x => Res.ok (Fl.ret (T.sh (Zh x))) ρ | none => .ok .next ρ)
   generalize (match Wv A true (p + 1) r with | some x => Res.ok (Fl.ret (T.sh (Zh x))) ρ | none => .ok .next ρ) = X at h ⊢
   repeat' (first|(with_reducible first|assumption|exact QO|exact Zl|exact X3|exact Wl|exact Zb|exact QH|exact Qt|apply Qp|exact XX|apply Zj|exact QX|exact QY|exact Zo|exact Qz|apply QE|apply QB|apply XD|apply Zn|apply Xf|apply Qu|apply QV|apply ZN|apply Yu|apply ZL|apply Qq|apply Q2|apply QS|apply DI|apply X1|apply Md|apply Ml|apply Mm|apply Mo|apply Mp|apply Mq|apply Mz|apply MR|apply MM|exact MN|apply MP|apply MQ|apply QZ|apply MZ|exact M0)|exact (rfl : Qg _ = true)|exact QN rfl|exact (rfl : (_ : Option _) = some _)|decide)
theorem Vo (K : Frag) (A : List (List Int)) (hA : A.length ≤ 1000) : Z7 K [.list (Qi A)] = .ok (.sh (UZ (Wv A true 0 A))) := by
 obtain ⟨ρ, h⟩ := F4 K hA A 0 none none rfl
 rw [← V6] at h
 unfold Z7 Wi
 cases hm : Wv A true 0 A with
 | some x =>
  rw [hm] at h
  simp only at h
  show _ = FOut.ok (.sh (Zh x))
  refine' QU [some (.sh (.list (Qi A))), none, none] rfl rfl ?_ Q0
  repeat' (first|(with_reducible first|assumption|exact QO|exact QL|apply W7|apply Qq|apply QS|apply Q9|apply MR|apply MW|apply ML QO|apply ML Zl|apply MM|exact MN)|exact (rfl : Qg _ = true)|exact QN rfl|exact (rfl : (_ : Option _) = some _)|decide)
 | none =>
  rw [hm] at h
  simp only at h
  show _ = FOut.ok (.sh .none)
  refine' QU [some (.sh (.list (Qi A))), none, none] rfl rfl ?_ Q0
  repeat' (first|(with_reducible first|assumption|exact QO|exact QL|apply W7|apply Qq|apply QS|apply Q9|apply MR|apply MW|apply ML QO|apply ML Zl|apply MM|exact MN)|exact (rfl : Qg _ = true)|exact QN rfl|exact (rfl : (_ : Option _) = some _)|decide)
theorem O1 (x : Option (Nat × Nat)) : Qg (UZ x) = true := by cases x <;> rfl
theorem Cu {n : Nat} : ∀ {chs : List (List Nat)} {a : List Int}, (∀ c ∈ chs, Change n c) → Row n a → ∀ x ∈ X2 a chs, Row n x
 | [], a, _, ra, x, hx => by rw [X2] at hx; cases hx with | head => exact ra | tail _ h => cases h
 | c :: cs, a, h, ra, x, hx => by
  rw [X2] at hx
  rcases List.mem_cons.mp hx with rfl | hx
  ·exact ra
  ·exact Cu (fun y hy => h y (.tail _ hy)) (ra.rung (h c (.head _)).ok) x hx
theorem W6 {n : Nat} (h3 : 3 ≤ n) (h12 : n ≤ 12) : Row n (rng n) := ⟨.refl _, h3, h12⟩
theorem YL (K : Frag) (x : Option (Nat × Nat)) : ZV K [UZ x, UZ x] = .ok (.sh (.bool true)) := by
 unfold ZV KR
 cases x with
 | none =>
  have e1 : isI .none .none = some (.sh (.bool true)) := rfl
  refine' QU [some (.sh .none), some (.sh .none)] rfl rfl ?_ Q0
  repeat' (first|(with_reducible first|assumption|exact QO|exact Zl|exact X3|exact QH|exact Qt|apply Qp|exact Zz|apply X8|exact QX|exact Xi|exact Qz|exact Q5|apply QE|apply QB|apply XD|apply Yn|apply Zn|apply Xf|apply Qu|apply QK|apply QP|apply Xp|apply XR|apply KW|apply Z1|apply QG|apply XM|apply Qq|apply Q2|apply QS|apply Md|apply Mf|apply Mi|apply Ml|apply Mm|apply Ms|apply Mz|apply MI|apply MJ|apply MR|exact Mt|exact Mx|apply My|apply MG|apply MM|exact MN|apply MP|apply MQ)|exact (rfl : Qg _ = true)|exact QN rfl|exact (rfl : (_ : Option _) = some _)|decide)
 | some x =>
  have e1 : isI (Zh x) .none = some (.sh (.bool false)) := rfl
  have e2 : Q1 K [Zh x, .glob (.type "tuple")] = some (.sh (.bool true)) := Ut K (Zh x) rfl
  have e3 : neI (Zh x) (Zh x) = some (.sh (.bool false)) := by
   have := Iu [(x.1 : Int), (x.2 : Int)] [(x.1 : Int), (x.2 : Int)]
   rw [UX.mpr rfl] at this; exact this
  have e4 : X0 (Zh x) = some [.int (x.1 : Nat), .int (x.2 : Nat)] := rfl
  have i1 := OW K (x.1 : Nat)
  have i2 := OW K (x.2 : Nat)
  have j1 := Kw K (x.1 : Nat)
  have j2 := Kw K (x.2 : Nat)
  have e5 : Yl (QF 1) Ux (eBo .And (Qc (Q8 (Q1 K) (Qb (eOp 1) (Qb (Qc (Qd (.glob (.type "int")))) Qj)))) (Jq EP (Qc (Q8 (Q1 K) (Qb (eOp 1) (Qb (Qc (Qd (.glob (.type "bool")))) Qj)))))) [none, none] [.int (x.1 : Nat), .int (x.2 : Nat)] [] = some [.bool true, .bool true] := by
   have := Y1 (b := QF 1) (f := (eBo .And (Qc (Q8 (Q1 K) (Qb (eOp 1) (Qb (Qc (Qd (.glob (.type "int")))) Qj)))) (Jq EP (Qc (Q8 (Q1 K) (Qb (eOp 1) (Qb (Qc (Qd (.glob (.type "bool")))) Qj))))))) (ρ₀ := [none, none]) (g := fun _ => .bool true) [.int (x.1 : Nat), .int (x.2 : Nat)] (fun d hd => ?_) (by simp)
   ·exact this
   ·have : ∃ v : Int, d = .int v := by
     rcases List.mem_cons.mp hd with rfl | hd
     ·exact ⟨_, rfl⟩
     ·rcases List.mem_cons.mp hd with rfl | hd
      ·exact ⟨_, rfl⟩
      ·cases hd
    obtain ⟨v, rfl⟩ := this
    have i1 := OW K v
    have j1 := Kw K v
    have k1 : EP (.bool false) = some (.sh (.bool true)) := rfl
    refine ⟨[none, some (.sh (.int v))], .sh (.bool true), [none, some (.sh (.int v))], rfl, ?_, rfl⟩
    repeat' (first|(with_reducible first|assumption|exact QO|exact Zl|exact X3|exact QH|exact Qt|apply Qp|exact Zz|apply X8|exact QX|exact Xi|exact Qz|exact Q5|apply QE|apply QB|apply XD|apply Yn|apply Zn|apply Xf|apply Qu|apply QK|apply QP|apply Xp|apply XR|apply KW|apply Z1|apply QG|apply XM|apply Qq|apply Q2|apply QS|apply Md|apply Mf|apply Mi|apply Ml|apply Mm|apply Ms|apply Mz|apply MI|apply MJ|apply MR|exact Mt|exact Mx|apply My|apply MG|apply MM|exact MN|apply MP|apply MQ)|exact (rfl : Qg _ = true)|exact QN rfl|exact (rfl : (_ : Option _) = some _)|decide)
  have e6 : Gw [.list [.bool true, .bool true]] = some (.sh (.bool true)) := rfl
  refine' QU [some (.sh (Zh x)), some (.sh (Zh x))] rfl rfl ?_ Q0
  repeat' (first|(with_reducible first|assumption|exact QO|exact Zl|exact X3|exact QH|exact Qt|apply Qp|exact Zz|apply X8|exact QX|exact Xi|exact Qz|exact Q5|apply QE|apply QB|apply XD|apply Yn|apply Zn|apply Xf|apply Qu|apply QK|apply QP|apply Xp|apply XR|apply KW|apply Z1|apply QG|apply XM|apply Qq|apply Q2|apply QS|apply Md|apply Mf|apply Mi|apply Ml|apply Mm|apply Ms|apply Mz|apply MI|apply MJ|apply MR|exact Mt|exact Mx|apply My|apply MG|apply MM|exact MN|apply MP|apply MQ)|exact (rfl : Qg _ = true)|exact QN rfl|exact (rfl : (_ : Option _) = some _)|decide)
noncomputable def Gy (K : Frag) (c : Int) (n : Nat) : List Nat := by
 classical exact if h : 3 ≤ n ∧ n ≤ 12 then Classical.choose (JR K c n h.1 h.2) else []
theorem FA (K : Frag) (c : Int) {n : Nat} (h3 : 3 ≤ n) (h12 : n ≤ 12) : Zi K [.int c, .int n] = .ok (.sh (.tup (nD (Gy K c n)))) ∧ Change n (Gy K c n) := by
 unfold Gy
 rw [dif_pos ⟨h3, h12⟩]
 exact Classical.choose_spec (JR K c n h3 h12)
noncomputable def Fp (a : List Int) (chs : List (List Nat)) : List Int := chs.foldl rung a
theorem DM (chs : List (List Nat)) : ∀ a, ∃ pre, X2 a chs = pre ++ [Fp a chs] ∧ pre.length = chs.length := by
 induction chs with
 | nil => intro a; exact ⟨[], rfl, rfl⟩
 | cons c cs ih =>
  intro a
  obtain ⟨pre, h1, h2⟩ := ih (rung a c)
  exact ⟨a :: pre, by rw [X2, h1]; rfl, by rw [List.length_cons, h2, List.length_cons]⟩
theorem Bs {n : Nat} (chs : List (List Nat)) : ∀ {a : List Int}, (∀ c ∈ chs, Change n c) → Row n a → Row n (Fp a chs) := by
 induction chs with
 | nil => intro a _ r; exact r
 | cons c cs ih => intro a h r; exact ih (fun x hx => h x (.tail _ hx)) (r.rung (h c (.head _)).ok)
noncomputable def aft (a : List Int) (chs : List (List Nat)) (w : List Nat) : List Int := rung (Fp a chs) w
structure Mth (n : Nat) (chs ws : List (List Nat)) : Prop where
 c : Chs n chs
 w : ∀ c ∈ ws, Change n c
 l : ws.length ≤ 4
theorem WX (K : Frag) {n : Nat} {chs ws : List (List Nat)} {c : Nat} (hc : c < ws.length) (h4 : ws.length ≤ 4) : Xd K [mth n chs ws, .int c] = .ok (.sh .none) := by
 have e1 : ZR K [.int (c : Int)] = .ok (.sh (.bool true)) := YJ K _ rfl
 have e2 := XA (ds := chD ws) (by rw [X6]; exact omB h4)
 rw [X6] at e2
 have e3 := WE (a := 0) (b := (c : Int)) (by exact Int.ofNat_nonneg _)
 have e4 := H9 (a := (c : Int)) (b := (ws.length : Int)) (by exact Int.ofNat_lt.mpr hc)
 unfold Xd Z8
 refine' QU [some (.sh (mth n chs ws)), some (.sh (.int c))] rfl rfl ?_ U8
 unfold mth
 repeat' (first|(with_reducible first|assumption|exact QO|exact QH|exact Qt|apply Qp|exact W4|exact Xk|exact QX|exact Xi|exact Qz|apply Qn|apply QB|apply Xf|apply Qu|apply QK|apply QC|apply QP|apply Xp|apply XR|apply ZB|apply Qq|apply Q2|apply J1|apply Md|apply Mi|apply Mj|apply Ml|apply Mm|apply Ms|apply MB|apply ME|apply MF|exact Mt|apply My|apply MC|apply MM|apply MQ)|exact Q6 rfl|exact (rfl : Qg _ = true)|exact (rfl : (_ : Option _) = some _)|decide)
theorem JQ (K : Frag) {n : Nat} {chs ws : List (List Nat)} {d : D} (hd : By d = true) (h : ∀ i, d = .int i → ¬ (0 ≤ i ∧ i < ws.length)) (h4 : ws.length ≤ 4) : Xd K [mth n chs ws, d] = .exc 92 := by
 have e1 := YJ K d hd
 have e2 := XA (ds := chD ws) (by rw [X6]; exact omB h4)
 rw [X6] at e2
 unfold Xd Z8
 refine' QU [some (.sh (mth n chs ws)), some (.sh d)] rfl rfl ?_ Z9
 unfold mth
 cases hw : isW d with
 | false =>
  rw [hw] at e1
  repeat' (first|(with_reducible first|assumption|exact QO|exact QH|exact Qt|apply Qp|exact XX|apply Zj|exact W4|exact Xk|exact QL|exact QX|exact QY|apply Qn|apply QB|apply Xf|apply Qu|apply QK|apply QC|apply QV|apply QP|apply Xp|apply XR|apply ZB|apply Qq|apply Q2|apply ZI|apply J1|apply Md|apply Mi|apply Mj|apply Ml|apply Mm|apply Mo|apply Mp|apply Ms|apply MB|apply ME|apply MF|exact Mt|exact Mu|exact Mx|apply My|apply MC|exact MD|exact MO|apply MP)|exact Q6 rfl|exact (rfl : Qg _ = true)|exact (rfl : (_ : Option _) = some _)|decide)
 | true =>
  rw [hw] at e1
  obtain ⟨i, rfl⟩ : ∃ i, d = .int i := by
   cases d <;> first | exact ⟨_, rfl⟩ | cases hw
  have hi := h i rfl
  by_cases h0 : 0 ≤ i
  ·have e3 := WE h0
   have e4 := HI (a := i) (b := (ws.length : Int)) (fun q => hi ⟨h0, q⟩)
   repeat' (first|(with_reducible first|assumption|exact QO|exact QH|exact Qt|apply Qp|exact XX|apply Zj|exact W4|exact Xk|exact QL|exact QX|exact QY|apply Qn|apply QB|apply Xf|apply Qu|apply QK|apply QC|apply QV|apply QP|apply Xp|apply XR|apply ZB|apply Qq|apply Q2|apply ZI|apply J1|apply Md|apply Mi|apply Mj|apply Ml|apply Mm|apply Mo|apply Mp|apply Ms|apply MB|apply ME|apply MF|exact Mt|exact Mu|exact Mx|apply My|apply MC|exact MD|exact MO|apply MP)|exact Q6 rfl|exact (rfl : Qg _ = true)|exact (rfl : (_ : Option _) = some _)|decide)
  ·have e3 := DS h0
   repeat' (first|(with_reducible first|assumption|exact QO|exact QH|exact Qt|apply Qp|exact XX|apply Zj|exact W4|exact Xk|exact QL|exact QX|exact QY|apply Qn|apply QB|apply Xf|apply Qu|apply QK|apply QC|apply QV|apply QP|apply Xp|apply XR|apply ZB|apply Qq|apply Q2|apply ZI|apply J1|apply Md|apply Mi|apply Mj|apply Ml|apply Mm|apply Mo|apply Mp|apply Ms|apply MB|apply ME|apply MF|exact Mt|exact Mu|exact Mx|apply My|apply MC|exact MD|exact MO|apply MP)|exact Q6 rfl|exact (rfl : Qg _ = true)|exact (rfl : (_ : Option _) = some _)|decide)
theorem G9 {ws : List (List Nat)} {c : Nat} {w : List Nat} (hw : ws[c]? = some w) (h4 : ws.length ≤ 4) : Xn (.list (chD ws)) (.int c) = some (.sh (.tup (nD w))) := by
 have := (List.getElem?_eq_some_iff.mp hw).1
 refine Z2 (by exact Int.ofNat_nonneg _) (by exact omI this (omB h4)) ?_
 rw [Int.toNat_natCast]
 unfold chD
 rw [List.getElem?_map, hw]; rfl
theorem EX (K : Frag) {n : Nat} {a : List Int} {chs ws : List (List Nat)} {c : Nat} {w : List Nat} (hm : Mth n chs ws) (ra : Row n a) (hw : ws[c]? = some w) : Yy K [mth n chs ws, .tup (iL a), .int c] = .ok (.sh (.tup (iL (aft a chs w)))) := by
 have l1 := OL K (ws := ws) ra hm.c
 obtain ⟨pre, p1, p2⟩ := DM chs a
 rw [p1] at l1
 have e1 := UY (l := pre) (a := Fp a chs) (by have := hm.c.len; exact Nat.le_trans (Nat.le_of_eq p2) (Nat.le_trans this (by decide)))
 have e2 := WX K (n := n) (chs := chs) (List.getElem?_eq_some_iff.mp hw).1 hm.l
 have e3 := G9 hw hm.l
 have e4 := K4 K (a := Fp a chs) (Bs chs hm.c.all ra).len ra.h12 (hm.w w (List.mem_of_getElem? hw)).ok
 have e5 : Jl (.int 1) = some (.sh (.int (-1))) := rfl
 unfold aft Yy Um
 refine' QU [some (.sh (mth n chs ws)), some (.sh (.tup (iL a))), some (.sh (.int c)), none] rfl rfl ?_ Q0
 unfold mth at *
 repeat' (first|(with_reducible first|assumption|exact QO|exact Yw|exact QH|exact Qt|apply Qp|exact W4|exact Xk|exact QX|apply Qn|apply QB|apply ZH|apply XG|apply Xf|apply Qu|apply QC|apply Z1|apply Qq|apply QS|apply Xh|apply Q7|apply J1|apply Uk|apply Md|apply Mf|apply Mh|apply Mg|apply Mj|apply Ml|apply Mm|apply MR|apply MT|apply MV|apply MM|exact MN|apply M2)|exact Q6 rfl|exact (rfl : Qg _ = true)|exact (rfl : (_ : Option _) = some _)|decide)
theorem Wb (p r : Nat) : nL (List.range' p (r + 1)) = D.int (p : Nat) :: nL (List.range' (p + 1) r) := rfl
theorem EJ {a b : Nat} (hab : a ≤ b) (hb : b ≤ 1000) : X0 (.range a b 1) = some (nL (List.range' a (b - a))) := by
 have h1 : Builtin.Range.rangeSize (a : Int) (b : Int) 1 = ((b - a : Nat) : Int) := by
  rw [rangeSize_one]; split <;> omega
 have h2 : Yk (a : Int) (b : Int) 1 = true := by
  unfold Yk
  rw [small_one (by exact Int.ofNat_nonneg _) (by lia) (by exact Int.ofNat_nonneg _) (by exact Int.ofNat_lt.mpr (Nat.lt_of_le_of_lt hb (by decide))), h1]
  simp only [Bool.true_and, Bool.and_eq_true, decide_eq_true_eq]
  constructor <;> omega
 rw [DH h2]
 unfold Wh KK nL
 rw [h1, Int.toNat_natCast, List.range'_eq_map_range, List.map_map]
 refine congrArg some (List.map_congr_left fun i _ => ?_)
 show D.int ((a : Int) + (i : Int) * 1) = D.int ((a + i : Nat) : Int)
 rw [Int.mul_one]; rfl
theorem BZ (K : Frag) (c : Int) : ∃ m : Nat, m ≤ 30 ∧ Wj K [.int c] = .ok (.sh (.int m)) := by
 obtain ⟨p, hp1, hp2⟩ := XV (c.fdiv 8) (n := 23) (by decide)
 obtain ⟨r, hr1, hr2⟩ := XV (c.fdiv 8) (n := 8) (by decide)
 have d1 : XB (.int (c.fdiv 8)) (.int 23) = some (.sh (.int p)) := by rw [QW (by decide)]; rw [show (c.fdiv 8).fmod 23 = p from hp1]
 have d2 : XB (.int (c.fdiv 8)) (.int 8) = some (.sh (.int r)) := by rw [QW (by decide)]; rw [show (c.fdiv 8).fmod 8 = r from hr1]
 unfold Wj KG
 by_cases h : c.fmod 8 = 1
 ·have q1 : eqI (.int (c.fmod 8)) (.int 1) = some (.sh (.bool true)) := by rw [h]; exact VI 1
  have q2 : Xg (.int 8) (.int p) = some (.sh (.int ((8 + p : Nat) : Int))) := rfl
  refine ⟨8 + p, by (have := hp2; simp +arith at this ⊢; exact this), ?_⟩
  refine' QU [some (.sh (.int c))] rfl rfl ?_ Q0
  repeat' (first|(with_reducible first|assumption|exact QO|exact X3|exact QH|exact Xk|exact Qz|apply Uf|apply XD|apply XG|apply QT|apply Qu|apply Qq|apply Q2|apply QS|apply QW|apply XW|apply Md|apply Mh|apply Mg|apply Mz|apply MA|apply MR|apply MM|exact MN|apply MP|apply MQ)|exact (rfl : Qg _ = true)|exact (rfl : (_ : Option _) = some _)|decide)
 ·have q1 := VM h
  refine ⟨r, by exact omL hr2, ?_⟩
  refine' QU [some (.sh (.int c))] rfl rfl ?_ Q0
  repeat' (first|(with_reducible first|assumption|exact QO|exact X3|exact QH|exact Xk|exact Qz|apply Uf|apply XD|apply XG|apply QT|apply Qu|apply Qq|apply Q2|apply QS|apply QW|apply XW|apply Md|apply Mh|apply Mg|apply Mz|apply MA|apply MR|apply MM|exact MN|apply MP|apply MQ)|exact (rfl : Qg _ = true)|exact (rfl : (_ : Option _) = some _)|decide)
theorem VB (j m : Nat) (hm : m ≠ 0) : XB (.int (j : Int)) (.int m) = some (.sh (.int ((j % m : Nat) : Int))) := by
 rw [QW (by exact fun e => hm (Int.ofNat.inj e))]; congr 3; rw [Int.fmod_eq_emod_of_nonneg _ (by exact Int.ofNat_nonneg _)]; rfl
theorem Ou (j m : Nat) (hm : m ≠ 0) (hs : m ≤ 1000) : ZC (.int (j : Int)) (.int m) = some (.sh (.int ((j / m : Nat) : Int))) := by
 rw [XW (by constructor <;> omega)]; congr 3; rw [Int.fdiv_eq_ediv_of_nonneg _ (by exact Int.ofNat_nonneg _)]; rfl
theorem IC (l : List (List Nat)) (c : List Nat) : chD l ++ [.tup (nD c)] = chD (l ++ [c]) := by unfold chD; rw [List.map_append]; rfl
theorem E1 (K : Frag) {n st : Nat} {ns : List Int} {x3 : D} (hl : ns.length ≤ 63) (h3 : 3 ≤ n) (h12 : n ≤ 12) : ∀ (m j : Nat) (chs : List (List Nat)) (v : Option T), (∀ c ∈ chs, Change n c) → j + m ≤ 100 → chs.length + m ≤ 100 → ∃ chs' v', chs'.length = chs.length + m ∧ (∀ c ∈ chs', Change n c) ∧
  Xs (QF 5) (Qo (XF (Qc (Za 4 (QA (Zi K) (Qb (Qc (QA (Xq K) (Qb (Qc (QA (Xb K) (Qb (eOp 0) (Qb (Qc (Qr Xg (Qc (Qr Xg (eOp 1) (Qc (Qd (.int 2))))) (Qc (Qr XB (eOp 5) (Qc (Qd (.int 6))))))) Qj)))) (Qb (Qc (Qr ZC (eOp 5) (Qc (Qd (.int 6))))) Qj)))) (Qb (eOp 2) Qj)))))) Qy) (nL (List.range' j m)) [some (.sh (.list (iL ns))), some (.sh (.int st)), some (.sh (.int n)), some (.sh x3), some (.ow true (.list (chD chs))), v, none, none] = .ok .next [some (.sh (.list (iL ns))), some (.sh (.int st)), some (.sh (.int n)), some (.sh x3), some (.ow true (.list (chD chs'))), v', none, none] := by
 intro m
 induction m with
 | zero => intro j chs v h _ _; exact ⟨chs, v, rfl, h, rfl⟩
 | succ m ih =>
  intro j chs v h hj hlen
  have e1 : XB (.int (j : Int)) (.int 6) = some (.sh (.int ((j % 6 : Nat) : Int))) := VB j 6 (by decide)
  have e2 : ZC (.int (j : Int)) (.int 6) = some (.sh (.int ((j / 6 : Nat) : Int))) := Ou j 6 (by decide) (by decide)
  have e3 : Xg (.int (st : Int)) (.int 2) = some (.sh (.int ((st + 2 : Nat) : Int))) := rfl
  have e4 : Xg (.int ((st + 2 : Nat) : Int)) (.int ((j % 6 : Nat) : Int)) = some (.sh (.int ((st + 2 + j % 6 : Nat) : Int))) := rfl
  have e5 := X4 K ns (st + 2 + j % 6) hl
  have e6 := Zv K (ns.getD (st + 2 + j % 6) 0) ((j / 6 : Nat) : Int) (Y8 (by lia))
  obtain ⟨c, e7, hc⟩ := JR K (mix (ns.getD (st + 2 + j % 6) 0) ((j / 6 : Nat) : Int)) n h3 h12
  have e8 : (chD chs).length ≤ 1000000 := by rw [X6]; exact omP hlen
  obtain ⟨chs', v', q1, q2, q3⟩ := ih (j + 1) (chs ++ [c]) (some (.sh (.int j))) (fun x hx => by
   rcases List.mem_append.mp hx with hx | hx
   ·exact h x hx
   ·rw [List.mem_singleton.mp hx]; exact hc) (by exact omS hj) (by rw [List.length_append]; simp; exact omS hlen)
  refine ⟨chs', v', by rw [q1, List.length_append]; simp; exact Nat.succ_add _ _, q2, ?_⟩
  rw [← IC] at q3
  rw [Wb]
  repeat' (first|(with_reducible first|assumption|exact QO|exact X3|exact Uw|exact Kj|exact QH|exact Qt|apply Qp|apply Yz|exact QX|exact Qz|apply Qn|apply QE|apply QB|apply XD|apply XG|apply Qu|apply QC|apply Zq|apply Qq|apply Xh|apply Md|apply Mh|apply Mg|apply Mj|apply Ml|apply Mm|apply MT|apply MM|apply QZ|apply Xo|apply MZ)|exact Q6 rfl|exact (rfl : Qg _ = true)|exact (rfl : (_ : Option _) = some _)|decide)
theorem Fx (K : Frag) {n m : Nat} {c : Int} (h3 : 3 ≤ n) (h12 : n ≤ 12) (hm : m ≤ 4) : ∃ ws, ws.length = m ∧ (∀ x ∈ ws, Change n x) ∧ Yl (QF 1) Ux (QA (Zi K) (Qb (Qc (QA (Xq K) (Qb (eOp 3) (Qb (Qc (Qr Xg (Qc (Qd (.int 30))) (eOp 1))) Qj)))) (Qb (eOp 2) Qj))) [none, none, some (.sh (.int n)), some (.sh (.int c))] (iL (rng m)) [] = some (chD ws) := by
 refine ⟨(List.range m).map fun (j : Nat) => Gy K (mix c (30 + (j : Int))) n, by simp, fun x hx => ?_, ?_⟩
 ·obtain ⟨j, _, rfl⟩ := List.mem_map.mp hx
  exact (FA K _ h3 h12).2
 ·have := Y1 (b := QF 1) (f := (QA (Zi K) (Qb (Qc (QA (Xq K) (Qb (eOp 3) (Qb (Qc (Qr Xg (Qc (Qd (.int 30))) (eOp 1))) Qj)))) (Qb (eOp 2) Qj)))) (ρ₀ := [none, none, some (.sh (.int n)), some (.sh (.int c))]) (g := fun d => match d with | .int k => .tup (nD (Gy K (mix c (30 + k)) n)) | _ => .none) (iL (rng m)) (fun d hd => ?_) (by rw [Q3, XE]; exact omB hm)
  ·rw [this]
   unfold iL rng chD
   rw [List.map_map, List.map_map, List.map_map]
   congr 1
  ·obtain ⟨k, hk, rfl⟩ := List.mem_map.mp hd
   have hk' := FW.mp hk
   have e2 : Xg (.int 30) (.int k) = some (.sh (.int (30 + k))) := rfl
   have e5 := Zv K c (30 + k) (Y8 (by omega))
   have e6 := (FA K (mix c (30 + k)) h3 h12).1
   refine ⟨[none, some (.sh (.int k)), some (.sh (.int n)), some (.sh (.int c))], .sh (.tup (nD (Gy K (mix c (30 + k)) n))), [none, some (.sh (.int k)), some (.sh (.int n)), some (.sh (.int c))], rfl, ?_, rfl⟩
   repeat' (first|(with_reducible first|assumption|exact QO|exact QH|exact Qt|apply Qp|exact QX|apply Qn|apply QE|apply QB|apply Uf|apply Xf|apply Qu|apply QC|apply Md|apply Mg|apply Mj|apply Ml|apply Mm)|exact Q6 rfl|exact (rfl : Qg _ = true)|exact (rfl : (_ : Option _) = some _)|decide)
theorem BD (K : Frag) {n st : Nat} {ns : List Int} (hl : ns.length ≤ 63) (h3 : 3 ≤ n) (h12 : n ≤ 12) : ∃ chs ws, Y5 K [.list (iL ns), .int st, .int n] = .ok (.sh (.tup [.list (chD chs), .list (chD ws)])) ∧ Chs n chs ∧ (∀ c ∈ ws, Change n c) ∧ 1 ≤ ws.length ∧ ws.length ≤ 4 := by
 have c0 := X4 K ns st hl
 have c1 := X4 K ns (st + 1) hl
 obtain ⟨m, hm, e1⟩ := BZ K (ns.getD st 0)
 have e2 : XN [.int (m : Int)] = some (.sh (.range 0 m 1)) := rfl
 have e3 : X0 (.range 0 (m : Int) 1) = some (nL (List.range' 0 (m - 0))) := EJ (a := 0) (Nat.zero_le _) (by exact omB hm)
 rw [Nat.sub_zero] at e3
 obtain ⟨chs, v, q1, q2, q3⟩ := E1 K (st := st) (x3 := .int (ns.getD st 0)) hl h3 h12 m 0 [] none (fun x hx => by cases hx) (by exact Nat.le_trans (Nat.add_le_add_left hm _) (by decide)) (by simp; exact omB hm)
 have q3 : Xs (QF 5) _ (nL (List.range' 0 m)) [some (.sh (.list (iL ns))), some (.sh (.int st)), some (.sh (.int n)), some (.sh (.int (ns.getD st 0))), some (.ow true (.list [])), none, none, none] = .ok .next [some (.sh (.list (iL ns))), some (.sh (.int st)), some (.sh (.int n)), some (.sh (.int (ns.getD st 0))), some (.ow true (.list (chD chs))), v, none, none] := q3
 obtain ⟨r, hr1, hr2⟩ := XV ((ns.getD st 0).fdiv 40) (n := 4) (by decide)
 have d1 : XB (.int ((ns.getD st 0).fdiv 40)) (.int 4) = some (.sh (.int r)) := by rw [QW (by decide)]; rw [show ((ns.getD st 0).fdiv 40).fmod 4 = r from hr1]
 have d2 : Xg (.int 1) (.int (r : Int)) = some (.sh (.int ((1 + r : Nat) : Int))) := rfl
 have d3 : XN [.int ((1 + r : Nat) : Int)] = some (.sh (.range 0 ((1 + r : Nat) : Int) 1)) := rfl
 have d4 := OX (1 + r) (by omega)
 obtain ⟨ws, w1, w2, w3⟩ := Fx K (c := ns.getD (st + 1) 0) h3 h12 (show 1 + r ≤ 4 by (have := hr2; simp +arith at this ⊢; exact this))
 have d5 : Xg (.int (st : Int)) (.int 1) = some (.sh (.int ((st + 1 : Nat) : Int))) := rfl
 refine ⟨chs, ws, ?_, ⟨h3, h12, by rw [q1]; simp; omega, q2⟩, w2, by lia, by omega⟩
 unfold Y5 WB
 refine' QU [some (.sh (.list (iL ns))), some (.sh (.int st)), some (.sh (.int n)), none, none, none, none, none] rfl rfl ?_ Q0
 repeat' (first|(with_reducible first|assumption|exact QO|exact X3|exact Yw|exact Uw|exact KI|exact Vt|exact QH|exact Qt|apply Qp|exact Zz|apply X8|apply ZM|exact K7|exact XX|apply Zj|exact Xk|exact QX|exact QY|apply Qn|apply QE|apply QB|apply Uf|apply XD|apply XG|apply Qu|apply QK|apply QC|apply QV|apply ZN|apply XJ|apply QG|apply XM|apply Qq|apply QS|apply Q7|apply Q9|apply QW|apply XW|apply Md|apply Mh|apply Mg|apply Mi|apply Mj|apply Ml|apply Mm|apply Mo|apply Mp|apply Mq|apply Mr|apply MJ|apply MR|apply MV|apply MW|apply MM|exact MN)|exact Q6 rfl|exact (rfl : Qg _ = true)|apply JT rfl|exact (rfl : (_ : Option _) = some _)|decide)
theorem Da {ds : List D} (p : Nat) : Oo ds none (some (p : Int)) = ds.take p := by
 by_cases h : p ≤ ds.length
 ·exact Ho h
 ·unfold Oo
  simp only [Option.elim, List.drop_zero, clipAt_nat, Nat.sub_zero]
  rw [Nat.min_eq_right (by exact Nat.le_of_not_le h), List.take_of_length_le (Nat.le_refl _), List.take_of_length_le (by exact Nat.le_of_not_le h)]
end Mine
end

section
set_option Elab.async false
set_option maxRecDepth 100000
set_option maxHeartbeats 4000000
set_option linter.unusedSimpArgs false
set_option linter.unusedVariables false
namespace Mine
open PySem PySem.W
theorem U6 {a : List Int} : ∀ {ks : List (List Int)}, (QM a ks).isSome = true ↔ a ∈ ks := by
 intro ks
 constructor
 ·intro h
  obtain ⟨j, hj⟩ := Option.isSome_iff_exists.mp h
  exact List.mem_of_getElem? (W8 hj)
 ·intro h
  induction ks with
  | nil => cases h
  | cons x ks ih =>
   show (if x = a then some 0 else (QM a ks).map (· + 1)).isSome = true
   by_cases hx : x = a
   ·rw [if_pos hx]; rfl
   ·rw [if_neg hx]
    rcases List.mem_cons.mp h with rfl | h
    ·exact absurd rfl hx
    ·rw [Option.isSome_map]; exact ih h
theorem Ub {a : List Int} {ks : List (List Int)} (h : a ∉ ks) : QM a ks = none := by
 cases hk : QM a ks with
 | none => rfl
 | some j => exact absurd (U6.mp (by rw [hk]; rfl)) h
theorem Kb {a : List Int} {ks : List (List Int)} (h : a ∈ ks) : ∃ j, QM a ks = some j ∧ j < ks.length := by
 obtain ⟨j, hj⟩ := Option.isSome_iff_exists.mp (U6.mpr h)
 exact ⟨j, hj, VO hj⟩
theorem CC {a : List Int} {ks : List (List Int)} (h : a ∉ ks) : DB a ks = ks ++ [a] := by
 conv => lhs; whnf; rw [Ub h]
theorem CD {a : List Int} {d : D} {ks : List (List Int)} {ds : List D} (h : a ∉ ks) : Ei a d ks ds = ds ++ [d] := by
 conv => lhs; whnf; rw [Ub h]
noncomputable def KN (n : Nat) : List D := nL (List.range n)
theorem DF (n : Nat) : KN n ++ [.int (n : Nat)] = KN (n + 1) := by unfold KN nL; rw [List.range_succ, List.map_append]; rfl
theorem EL {n j : Nat} (h : j < n) : (KN n)[j]? = some (.int (j : Nat)) := by
 unfold KN nL; rw [List.getElem?_map, List.getElem?_range h]; rfl
theorem Fw {P r : List (List Int)} {a : List Int} (h : a ∉ P) (hp : P.Nodup) : (P ++ [a]).Nodup := by
 rw [List.nodup_append]
 exact ⟨hp, by simp, fun x hx y hy => by rw [List.mem_singleton.mp hy]; rintro rfl; exact h hx⟩
theorem Gi {P r : List (List Int)} {a : List Int} (h : a ∈ P) : ¬ (P ++ a :: r).Nodup := fun q => (List.nodup_append.mp q).2.2 a h a (.head _) rfl
noncomputable def tw (x : Option (Nat × Nat)) (ρ : AEnv) : Res Fl := x.elim (.ok .next ρ) fun y => .ok (.ret (.sh (Zh y))) ρ
noncomputable def twI : List (List Int) → List (List Int) → Option (Nat × Nat)
 | _, [] => none
 | P, a :: r => match QM a P with
  | some i => some (i, P.length)
  | none => twI (P ++ [a]) r
theorem C6 {P r : List (List Int)} {a : List Int} {i : Nat} (h : QM a P = some i) : twI P (a :: r) = some (i, P.length) := by conv => lhs; whnf; rw [h]
theorem BG {P r : List (List Int)} {a : List Int} (h : QM a P = none) : twI P (a :: r) = twI (P ++ [a]) r := by conv => lhs; whnf; rw [h]
noncomputable def Yt (A : List (List Int)) : Option (Nat × Nat) := twI [] A
theorem Hw : ∀ (rest P : List (List Int)), P.Nodup → (twI P rest = none ↔ (P ++ rest).Nodup) := by
 intro rest
 induction rest with
 | nil => intro P hp; rw [List.append_nil]; exact ⟨fun _ => hp, fun _ => rfl⟩
 | cons a r ih =>
  intro P hp
  by_cases ha : a ∈ P
  ·obtain ⟨j, hj, _⟩ := Kb ha
   rw [C6 hj]
   exact ⟨fun h => (by cases h), fun h => absurd h (Gi ha)⟩
  ·rw [BG (Ub ha), ih (P ++ [a]) (Fw (r := r) ha hp), List.append_assoc]; rfl
theorem Fi (K : Frag) {x0 : D} : ∀ (rest P : List (List Int)) (v2 v3 : Option T), P.length + rest.length ≤ 2000 → ∃ ρ,
  Xs (ZD [2, 3]) (Qo (sIf (BN false (eOp 3) 1) (Qo (XS (YK (Qw (WQ 1 (eOp 3)) (Qw (Xe 2) Xv)))) Qy) Qy) (Qo (Bf 1 (eOp 3) (Xe 2)) Qy)) (enF P.length rest) [some (.sh x0), some (.ow true (.dict P (KN P.length))), v2, v3] = tw (twI P rest) ρ := by
 intro rest
 induction rest with
 | nil => intro P v2 v3 _; exact ⟨_, rfl⟩
 | cons a r ih =>
  intro P v2 v3 hl
  rw [List.length_cons] at hl
  rw [Og]
  have hrow := ZZ a
  have hks : P.length ≤ 1000000 := by lia
  by_cases ha : a ∈ P
  ·obtain ⟨j, hj, hlt⟩ := Kb ha
   have e1 : ((QM a P).isSome != false) = true := by rw [hj]; rfl
   have e2 := EL hlt
   refine ⟨[some (.sh x0), some (.ow true (.dict P (KN P.length))), some (.sh (.int P.length)), some (.sh (.tup (iL a)))], ?_⟩
   rw [C6 hj]
   show _ = Res.ok (Fl.ret (T.sh (.tup [.int (j : Nat), .int (P.length : Nat)]))) _
   repeat' (first|(with_reducible first|assumption|exact QO|exact Wl|exact Zb|exact Yw|exact XX|apply Zj|exact QY|exact Qz|apply Xf|apply QV|apply ZN|apply Qq|apply Q2|apply QS|apply OJ|apply JY|apply W1|apply WZ|apply Dp|apply X1|apply Mo|apply Mp|apply Mq|apply MR|apply MM|exact MN|apply MP|apply MQ|apply QZ|apply MZ|exact M0)|exact (rfl : Qg _ = true)|exact QN rfl|exact (rfl : (_ : Option _) = some _)|decide)
  ·have e1 : ((QM a P).isSome != false) = false := by rw [Ub ha]; rfl
   obtain ⟨ρ, h2⟩ := ih (P ++ [a]) (some (.sh (.int P.length))) (some (.sh (.tup (iL a)))) (by rw [List.length_append]; simp; (rw [Nat.add_right_comm] ; exact hl))
   refine ⟨ρ, ?_⟩
   rw [BG (Ub ha)]
   rw [show (P ++ [a]).length = P.length + 1 by simp, ← DF] at h2
   generalize tw (twI (P ++ [a]) r) ρ = X at h2 ⊢
   rw [← CC ha, ← CD (ks := P) ha] at h2
   repeat' (first|(with_reducible first|assumption|exact QO|exact Wl|exact Zb|exact Yw|exact XX|apply Zj|exact QY|exact Qz|apply Xf|apply QV|apply ZN|apply Qq|apply Q2|apply QS|apply OJ|apply JY|apply W1|apply WZ|apply Dp|apply X1|apply Mo|apply Mp|apply Mq|apply MR|apply MM|exact MN|apply MP|apply MQ|apply QZ|apply MZ|exact M0)|exact (rfl : Qg _ = true)|exact QN rfl|exact (rfl : (_ : Option _) = some _)|decide)
theorem OB (K : Frag) (A : List (List Int)) (hA : A.length ≤ 2000) : JG K [.list (Qi A)] = .ok (.sh (UZ (Yt A))) := by
 obtain ⟨ρ, h2⟩ := Fi K (x0 := .list (Qi A)) A [] none none (by simpa using hA)
 have h2 : Xs (ZD [2, 3]) _ (JW (Qi A)) [some (.sh (.list (Qi A))), some (.ow true (.dict [] [])), none, none] = tw (Yt A) ρ := h2
 unfold JG UR
 cases ht : Yt A with
 | some y =>
  rw [ht] at h2
  have h2 : Xs (ZD [2, 3]) _ (JW (Qi A)) [some (.sh (.list (Qi A))), some (.ow true (.dict [] [])), none, none] = .ok (.ret (.sh (Zh y))) ρ := h2
  show _ = FOut.ok (.sh (Zh y))
  refine' QU [some (.sh (.list (Qi A))), none, none, none] rfl rfl ?_ Q0
  repeat' (first|(with_reducible first|assumption|exact QO|exact Wl|exact QL|apply W7|apply Qq|apply QS|apply Q9|apply W9|apply MR|apply MW|apply ML QO|apply ML Zl|apply MM|exact MN)|exact (rfl : Qg _ = true)|exact QN rfl|exact (rfl : (_ : Option _) = some _)|decide)
 | none =>
  rw [ht] at h2
  have h2 : Xs (ZD [2, 3]) _ (JW (Qi A)) [some (.sh (.list (Qi A))), some (.ow true (.dict [] [])), none, none] = .ok .next ρ := h2
  show _ = FOut.ok (.sh .none)
  refine' QU [some (.sh (.list (Qi A))), none, none, none] rfl rfl ?_ Q0
  repeat' (first|(with_reducible first|assumption|exact QO|exact Wl|exact QL|apply W7|apply Qq|apply QS|apply Q9|apply W9|apply MR|apply MW|apply ML QO|apply ML Zl|apply MM|exact MN)|exact (rfl : Qg _ = true)|exact QN rfl|exact (rfl : (_ : Option _) = some _)|decide)
theorem FK {i : Nat} (o : Option Nat) : (o.map (· + 1)).map (· + i) = o.map (· + (i + 1)) := by
 cases o with
 | none => rfl
 | some x => exact congrArg some (show x + 1 + i = x + (i + 1) by exact Nat.succ_add _ _)
noncomputable def twR (o : Option Nat) (j : Nat) (ρ ρ' : AEnv) : Res Fl := o.elim (.ok .next ρ') fun i => .ok (.ret (.sh (Zh (i, j)))) ρ
theorem Ce {a : List Int} {r : List (List Int)} : QM a (a :: r) = some 0 := if_pos rfl
theorem BX {a x : List Int} {r : List (List Int)} (h : x ≠ a) : QM a (x :: r) = (QM a r).map (· + 1) := if_neg h
theorem HM (K : Frag) {A : List (List Int)} {a : List Int} {j : Nat} (ha : A[j]? = some a) (hA : A.length ≤ 2000) : ∀ (Q : List (List Int)) (i : Nat) (v : Option T), (A.take j).drop i = Q → ∃ ρ v',
  Xs (QF 2) (Qo (sIf (Xl eqI (Qc (Qr Xn (eOp 0) (eOp 2))) (Qc (Qr Xn (eOp 0) (eOp 1)))) (Qo (XS (YK (Qw (Xe 2) (Qw (Xe 1) Xv)))) Qy) Qy) Qy) (nL (List.range' i Q.length)) [some (.sh (.list (Qi A))), some (.sh (.int j)), v] = twR ((QM a Q).map (· + i)) j ρ [some (.sh (.list (Qi A))), some (.sh (.int j)), v'] := by
 intro Q
 induction Q with
 | nil => intro i v _; exact ⟨[], v, rfl⟩
 | cons b Q ih =>
  intro i v hd
  obtain ⟨hb, hr⟩ := Jv hd
  have hi : i < j := by
   have := (List.getElem?_eq_some_iff.mp hb).1
   rw [List.length_take] at this; lia
  have hb : A[i]? = some b := by rw [List.getElem?_take_of_lt hi] at hb; exact hb
  have hj := (List.getElem?_eq_some_iff.mp ha).1
  have e1 : Xn (.list (Qi A)) (.int i) = some (.sh (.tup (iL b))) := Z2 (by exact Int.ofNat_nonneg _) (by lia) (by rw [Int.toNat_natCast]; exact OQ hb)
  have e2 : Xn (.list (Qi A)) (.int j) = some (.sh (.tup (iL a))) := Z2 (by exact Int.ofNat_nonneg _) (by lia) (by rw [Int.toNat_natCast]; exact OQ ha)
  have e3 := IH b a
  rw [List.length_cons, Wb]
  by_cases hab : b = a
  ·subst hab
   rw [UX.mpr rfl] at e3
   rw [Ce]
   refine ⟨[some (.sh (.list (Qi A))), some (.sh (.int j)), some (.sh (.int i))], v, ?_⟩
   show _ = Res.ok (Fl.ret (T.sh (.tup [.int ((0 + i : Nat) : Int), .int (j : Nat)]))) _
   rw [Nat.zero_add]
   repeat' (first|(with_reducible first|assumption|exact QO|exact Zb|exact QH|exact XX|apply Zj|exact QY|exact Qz|apply ZH|apply QT|apply Xf|apply Qu|apply QV|apply ZN|apply Qq|apply Q2|apply QS|apply Md|apply Mg|apply Mo|apply Mp|apply Mq|apply Mz|apply MA|apply MR|apply MM|exact MN|apply MP|apply MQ|apply QZ|apply Xo|apply MZ|exact M0)|exact (rfl : Qg _ = true)|exact QN rfl|exact (rfl : (_ : Option _) = some _)|decide)
  ·rw [Kd.mpr hab] at e3
   obtain ⟨ρ, v', h⟩ := ih (i + 1) (some (.sh (.int i))) hr
   refine ⟨ρ, v', ?_⟩
   rw [BX hab, FK]
   generalize twR ((QM a Q).map (· + (i + 1))) j ρ [some (.sh (.list (Qi A))), some (.sh (.int j)), v'] = X at h ⊢
   repeat' (first|(with_reducible first|assumption|exact QO|exact Zb|exact QH|exact XX|apply Zj|exact QY|exact Qz|apply ZH|apply QT|apply Xf|apply Qu|apply QV|apply ZN|apply Qq|apply Q2|apply QS|apply Md|apply Mg|apply Mo|apply Mp|apply Mq|apply Mz|apply MA|apply MR|apply MM|exact MN|apply MP|apply MQ|apply QZ|apply Xo|apply MZ|exact M0)|exact (rfl : Qg _ = true)|exact QN rfl|exact (rfl : (_ : Option _) = some _)|decide)
theorem Hc (K : Frag) {A : List (List Int)} (hA : A.length ≤ 900) : ∀ (rest : List (List Int)) (j : Nat) (v1 v2 : Option T), A.drop j = rest → ∃ ρ,
  Xs (QF 1) (Qo (YA (Xu (Q8 XN (Qb (eOp 1) Qj))) (QF 2) (Qo (sIf (Xl eqI (Qc (Qr Xn (eOp 0) (eOp 2))) (Qc (Qr Xn (eOp 0) (eOp 1)))) (Qo (XS (YK (Qw (Xe 2) (Qw (Xe 1) Xv)))) Qy) Qy) Qy)) Qy) (nL (List.range' j rest.length)) [some (.sh (.list (Qi A))), v1, v2] = tw (twI (A.take j) rest) ρ := by
 intro rest
 induction rest with
 | nil => intro j v1 v2 _; exact ⟨_, rfl⟩
 | cons a r ih =>
  intro j v1 v2 hd
  obtain ⟨ha, hr⟩ := Jv hd
  have hj := (List.getElem?_eq_some_iff.mp ha).1
  have htl : (A.take j).length = j := by rw [List.length_take]; lia
  have e1 : XN [.int (j : Int)] = some (.sh (.range 0 j 1)) := rfl
  have e2 := Je (m := j) (by exact Nat.le_trans (Nat.le_of_lt hj) (Nat.le_trans hA (by decide)))
  obtain ⟨ρ, v', h⟩ := HM K ha (by exact omB hA) (A.take j) 0 v2 rfl
  rw [htl] at h
  rw [List.length_cons, Wb]
  cases hk : QM a (A.take j) with
  | some i =>
   rw [hk] at h
   have h : Xs (QF 2) _ (nL (List.range' 0 j)) [some (.sh (.list (Qi A))), some (.sh (.int j)), v2] = .ok (.ret (.sh (Zh (i, j)))) ρ := h
   refine ⟨ρ, ?_⟩
   rw [C6 hk, htl]
   show _ = Res.ok (Fl.ret (T.sh (Zh (i, j)))) ρ
   repeat' (first|(with_reducible first|assumption|exact QO|exact Wl|exact Qt|apply Qp|exact Qz|apply Qn|apply QK|apply QG|apply Qq|apply Q9|apply Mi|apply MJ|apply MW|apply MM|exact MN|apply QZ|apply Xo|apply MZ|exact M0)|exact (rfl : Qg _ = true)|exact (rfl : (_ : Option _) = some _)|decide)
  | none =>
   rw [hk] at h
   have h : Xs (QF 2) _ (nL (List.range' 0 j)) [some (.sh (.list (Qi A))), some (.sh (.int j)), v2] = .ok .next [some (.sh (.list (Qi A))), some (.sh (.int j)), v'] := h
   obtain ⟨ρ₂, h₂⟩ := ih (j + 1) (some (.sh (.int j))) v' hr
   refine ⟨ρ₂, ?_⟩
   rw [BG hk, show A.take j ++ [a] = A.take (j + 1) by rw [List.take_add_one, ha]; rfl]
   generalize tw (twI (A.take (j + 1)) r) ρ₂ = X at h₂ ⊢
   repeat' (first|(with_reducible first|assumption|exact QO|exact Wl|exact Qt|apply Qp|exact Qz|apply Qn|apply QK|apply QG|apply Qq|apply Q9|apply Mi|apply MJ|apply MW|apply MM|exact MN|apply QZ|apply Xo|apply MZ|exact M0)|exact (rfl : Qg _ = true)|exact (rfl : (_ : Option _) = some _)|decide)
theorem Jg (K : Frag) (A : List (List Int)) (hA : A.length ≤ 900) : Zm K [.list (Qi A)] = .ok (.sh (UZ (Yt A))) := by
 obtain ⟨ρ, h2⟩ := Hc K hA A 0 none none rfl
 have h2 : Xs (QF 1) _ (nL (List.range' 0 A.length)) [some (.sh (.list (Qi A))), none, none] = tw (Yt A) ρ := h2
 have e1 := XA (ds := Qi A) (by rw [QJ]; exact omB hA)
 rw [QJ] at e1
 have e2 : XN [.int (A.length : Int)] = some (.sh (.range 0 A.length 1)) := rfl
 have e3 := Je (m := A.length) (by exact omB hA)
 unfold Zm WO
 cases ht : Yt A with
 | some y =>
  rw [ht] at h2
  have h2 : Xs (QF 1) _ (nL (List.range' 0 A.length)) [some (.sh (.list (Qi A))), none, none] = .ok (.ret (.sh (Zh y))) ρ := h2
  show _ = FOut.ok (.sh (Zh y))
  refine' QU [some (.sh (.list (Qi A))), none, none] rfl rfl ?_ Q0
  repeat' (first|(with_reducible first|assumption|exact QO|exact QH|exact Qt|apply Qp|exact QL|exact QX|apply Qn|apply QB|apply Qu|apply QK|apply QG|apply Qq|apply QS|apply Q9|apply Md|apply Mi|apply Ml|apply Mm|apply MJ|apply MR|apply MW|apply MM|exact MN)|exact (rfl : Qg _ = true)|exact (rfl : (_ : Option _) = some _)|decide)
 | none =>
  rw [ht] at h2
  have h2 : Xs (QF 1) _ (nL (List.range' 0 A.length)) [some (.sh (.list (Qi A))), none, none] = .ok .next ρ := h2
  show _ = FOut.ok (.sh .none)
  refine' QU [some (.sh (.list (Qi A))), none, none] rfl rfl ?_ Q0
  repeat' (first|(with_reducible first|assumption|exact QO|exact QH|exact Qt|apply Qp|exact QL|exact QX|apply Qn|apply QB|apply Qu|apply QK|apply QG|apply Qq|apply QS|apply Q9|apply Md|apply Mi|apply Ml|apply Mm|apply MJ|apply MR|apply MW|apply MM|exact MN)|exact (rfl : Qg _ = true)|exact (rfl : (_ : Option _) = some _)|decide)
end Mine
end

section
set_option Elab.async false
set_option maxRecDepth 100000
set_option maxHeartbeats 4000000
set_option linter.unusedSimpArgs false
set_option linter.unusedVariables false
namespace Mine
open PySem PySem.W
theorem Dt {ws : List (List Nat)} {c : Nat} (h : c < ws.length) : ws[c]? = some (ws.getD c []) := by rw [List.getD_eq_getElem?_getD, List.getElem?_eq_getElem h]; rfl
theorem CM {n : Nat} {chs ws : List (List Nat)} {h : List Int} {c : Nat} (hm : Mth n chs ws) (r : Row n h) (hc : c < ws.length) : Row n (aft h chs (ws.getD c [])) := (Bs chs hm.c.all r).rung (hm.w _ (List.mem_of_getElem? (Dt hc))).ok
noncomputable def hds (chs ws : List (List Nat)) : List Int → List Nat → List (List Int)
 | _, [] => []
 | h, c :: t => h :: hds chs ws (aft h chs (ws.getD c [])) t
noncomputable def YG (chs ws : List (List Nat)) : List Int → List Nat → List Int
 | h, [] => h
 | h, c :: t => YG chs ws (aft h chs (ws.getD c [])) t
noncomputable def ldL (chs : List (List Nat)) (hs : List (List Int)) : List (List (List Int)) := hs.map fun h => X2 h chs
theorem VA (chs ws : List (List Nat)) (t : List Nat) : ∀ h, (hds chs ws h t).length = t.length := by
 induction t with
 | nil => intro h; rfl
 | cons c t ih => intro h; exact congrArg (· + 1) (ih _)
theorem Ed {n : Nat} {chs ws : List (List Nat)} (hm : Mth n chs ws) (t : List Nat) : ∀ {h : List Int}, Row n h → (∀ c ∈ t, c < ws.length) → (∀ x ∈ hds chs ws h t, Row n x) ∧ Row n (YG chs ws h t) := by
 induction t with
 | nil => intro h r _; exact ⟨fun x hx => (by cases hx), r⟩
 | cons c t ih =>
  intro h r hc
  obtain ⟨h1, h2⟩ := ih (CM hm r (hc c (.head _))) fun x hx => hc x (.tail _ hx)
  refine ⟨fun x hx => ?_, h2⟩
  rcases List.mem_cons.mp hx with rfl | hx
  ·exact r
  ·exact h1 x hx
theorem Bl {chs : List (List Nat)} (hs : List (List Int)) : (ldL chs hs).flatten.length = hs.length * (chs.length + 1) := by
 induction hs with
 | nil => rw [List.length_nil, Nat.zero_mul]; rfl
 | cons h hs ih =>
  show (X2 h chs ++ (ldL chs hs).flatten).length = _
  rw [List.length_append, O4, ih, List.length_cons, Nat.add_mul, Nat.one_mul, Nat.add_comm]
theorem Ba (K : Frag) {n : Nat} {chs ws : List (List Nat)} {dc : D} (h4 : ws.length ≤ 4) : ∀ (t : List Nat) (v : Option T), (∀ c ∈ t, c < ws.length) → ∃ v', ∀ r, Xs (QF 2) (Qo (XF (Qc (J0 285 "need_call" 0 (Xd K) (Qb (eOp 2) Qj)))) Qy) (nD t ++ r) [some (.sh (mth n chs ws)), some (.sh dc), v] = Xs (QF 2) (Qo (XF (Qc (J0 285 "need_call" 0 (Xd K) (Qb (eOp 2) Qj)))) Qy) r [some (.sh (mth n chs ws)), some (.sh dc), v'] := by
 intro t
 induction t with
 | nil => intro v _; exact ⟨v, fun r => rfl⟩
 | cons c t ih =>
  intro v hc
  have e1 := WX K (n := n) (chs := chs) (hc c (.head _)) h4
  obtain ⟨v', h⟩ := ih (some (.sh (.int c))) fun x hx => hc x (.tail _ hx)
  refine ⟨v', fun r => ?_⟩
  have h := h r
  show Xs _ _ (D.int (c : Nat) :: (nD t ++ r)) _ = _
  generalize Xs (QF 2) (Qo (XF (Qc (J0 285 "need_call" 0 (Xd K) (Qb (eOp 2) Qj)))) Qy) r [some (.sh (mth n chs ws)), some (.sh dc), v'] = X at h ⊢
  unfold mth at *
  repeat' (first|(with_reducible first|assumption|exact QO|exact Zb|exact Qt|apply Qp|exact Qz|apply Qn|apply Qu|apply Qq|apply Xh|apply Uk|apply Md|apply MT|apply MM|apply QZ|apply Xo|apply MZ|apply M2)|exact Q6 rfl|exact (rfl : Qg _ = true)|exact (rfl : (_ : Option _) = some _)|decide)
theorem Yp (t : List Nat) : (nD t).length = t.length := by unfold nD; rw [List.length_map]
theorem Vu (K : Frag) {n : Nat} {chs ws : List (List Nat)} (h4 : ws.length ≤ 4) {t : List Nat} (hc : ∀ c ∈ t, c < ws.length) (ht : t.length ≤ 40) : X5 K [mth n chs ws, .list (nD t)] = .ok (.sh .none) := by
 have e1 := Y3 K (nD t)
 have e2 := XA (ds := nD t) (by rw [Yp]; exact omB ht)
 rw [Yp] at e2
 have e3 := VN (a := (t.length : Int)) (b := 40) (by lia)
 obtain ⟨v, h⟩ := Ba K (n := n) (chs := chs) (dc := .list (nD t)) h4 t none hc
 have h := h []
 rw [List.append_nil] at h
 have h : Xs (QF 2) _ (nD t) [some (.sh (mth n chs ws)), some (.sh (.list (nD t))), none] = .ok .next [some (.sh (mth n chs ws)), some (.sh (.list (nD t))), v] := h
 have e4 : X0 (.list (nD t)) = some (nD t) := rfl
 unfold X5 YF
 refine' QU [some (.sh (mth n chs ws)), some (.sh (.list (nD t))), none] rfl rfl ?_ U8
 repeat' (first|(with_reducible first|assumption|exact QO|exact QH|exact Qt|apply Qp|exact Xk|exact Xi|exact Qz|exact Q5|apply Qn|apply QE|apply QT|apply Qu|apply QK|apply QP|apply Xp|apply XR|apply QG|apply Qq|apply Q2|apply Q9|apply Md|apply Mi|apply Ml|apply Ms|apply Mz|apply MA|apply MJ|apply MW|exact Mt|apply My|apply MM|apply MQ)|exact (rfl : Qg _ = true)|exact QN rfl|exact (rfl : (_ : Option _) = some _)|decide)
theorem Fg (K : Frag) {n : Nat} {chs ws : List (List Nat)} {dc : D} (hm : Mth n chs ws) : ∀ (t : List Nat) (h : List Int) (pre : List (List Int)) (v : Option T), Row n h → (∀ c ∈ t, c < ws.length) → pre.length + t.length ≤ 200 → ∃ v',
  Xs (QF 3) (Qo (XF (Qc (Za 2 (J0 285 "after" 0 (Yy K) (Qb (Qc (Qr Xn (eOp 2) (Qc (Jq Jl (Qc (Qd (.int 1))))))) (Qb (eOp 3) Qj)))))) Qy) (nD t) [some (.sh (mth n chs ws)), some (.sh dc), some (.ow true (.list (Qi (pre ++ [h])))), v] = .ok .next [some (.sh (mth n chs ws)), some (.sh dc), some (.ow true (.list (Qi (pre ++ (hds chs ws h t ++ [YG chs ws h t]))))), v'] := by
 intro t
 induction t with
 | nil => intro h pre v _ _ _; exact ⟨v, rfl⟩
 | cons c t ih =>
  intro h pre v r hc hp
  rw [List.length_cons] at hp
  have hcc := hc c (.head _)
  have e1 := EX K hm r (Dt hcc)
  have e2 := UY (l := pre) (a := h) (by lia)
  have hlen : (Qi (pre ++ [h])).length ≤ 1000000 := by rw [QJ, List.length_append]; simp; lia
  have e3 : Jl (.int 1) = some (.sh (.int (-1))) := rfl
  obtain ⟨v', hh⟩ := ih (aft h chs (ws.getD c [])) (pre ++ [h]) (some (.sh (.int c))) (CM hm r hcc) (fun x hx => hc x (.tail _ hx)) (by rw [List.length_append]; simp; (rw [Nat.add_right_comm] ; exact hp))
  refine ⟨v', ?_⟩
  rw [show pre ++ (hds chs ws h (c :: t) ++ [YG chs ws h (c :: t)]) = pre ++ [h] ++ (hds chs ws (aft h chs (ws.getD c [])) t ++ [YG chs ws (aft h chs (ws.getD c [])) t]) by rw [List.append_assoc]; rfl]
  rw [← Jp (pre ++ [h])] at hh
  show Xs _ _ (D.int (c : Nat) :: nD t) _ = _
  unfold mth at *
  repeat' (first|(with_reducible first|assumption|exact QO|exact Zb|exact Yw|exact QH|exact Qt|apply Qp|apply Yz|exact Xk|exact Qz|apply Qn|apply QB|apply ZH|apply Qu|apply Z1|apply Zq|apply Qq|apply Xh|apply Uk|apply Md|apply Mf|apply Mg|apply Ml|apply Mm|apply MT|apply MM|apply QZ|apply Xo|apply MZ|apply M2)|exact Q6 rfl|exact (rfl : Qg _ = true)|exact (rfl : (_ : Option _) = some _)|decide)
theorem EC (K : Frag) {n : Nat} {chs ws : List (List Nat)} (hm : Mth n chs ws) {t : List Nat} (hc : ∀ c ∈ t, c < ws.length) (ht : t.length ≤ 40) : Wn K [mth n chs ws, .list (nD t)] = .ok (.ow true (.list (Qi (hds chs ws (rng n) t ++ [YG chs ws (rng n) t])))) := by
 have e1 := Vu K (n := n) (chs := chs) hm.l hc ht
 have e2 := Eu K n hm.c.h3 hm.c.h12
 obtain ⟨v, h⟩ := Fg K (dc := .list (nD t)) hm t (rng n) [] none (W6 hm.c.h3 hm.c.h12) hc (by simp; exact omB ht)
 have h : Xs (QF 3) _ (nD t) [some (.sh (mth n chs ws)), some (.sh (.list (nD t))), some (.ow true (.list [.tup (iL (rng n))])), none] = .ok .next [some (.sh (mth n chs ws)), some (.sh (.list (nD t))), some (.ow true (.list (Qi (hds chs ws (rng n) t ++ [YG chs ws (rng n) t])))), v] := h
 have e4 : X0 (.list (nD t)) = some (nD t) := rfl
 unfold Wn VD
 refine' QU [some (.sh (mth n chs ws)), some (.sh (.list (nD t))), none, none] rfl rfl ?_ Q0
 unfold mth at *
 repeat' (first|(with_reducible first|assumption|exact QO|exact Zb|exact QH|exact Qt|apply Qp|exact XX|apply Zj|exact Fq|exact QX|exact QY|apply Qn|apply QE|apply QB|apply Qu|apply QC|apply QV|apply XJ|apply QG|apply Qq|apply Xh|apply Q7|apply Q9|apply J1|apply Md|apply Mj|apply Ml|apply Mm|apply Mo|apply Mp|apply Mr|apply MJ|apply MT|apply MV|apply MW|apply MM|exact MN)|exact Q6 rfl|exact (rfl : Qg _ = true)|exact QN rfl|exact J6 rfl|exact (rfl : (_ : Option _) = some _)|decide)
theorem V7 (K : Frag) {n : Nat} {chs ws : List (List Nat)} {dc : D} (hm : Mth n chs ws) : ∀ (hs acc : List (List Int)) (v : Option T), (∀ h ∈ hs, Row n h) → acc.length + hs.length * (chs.length + 1) ≤ 2000 → ∃ v',
  Xs (QF 3) (Qo (XF (Qc (W3 2 (J0 285 "lead" 0 (Zk K) (Qb (eOp 3) Qj))))) Qy) (Qi hs) [some (.sh (mth n chs ws)), some (.sh dc), some (.ow true (.list (Qi acc))), v] = .ok .next [some (.sh (mth n chs ws)), some (.sh dc), some (.ow true (.list (Qi (acc ++ (ldL chs hs).flatten)))), v'] := by
 intro hs
 induction hs with
 | nil => intro acc v _ _; exact ⟨v, by rw [show (ldL chs []).flatten = [] from rfl, List.append_nil]; rfl⟩
 | cons h hs ih =>
  intro acc v hr hl
  rw [List.length_cons, Nat.add_mul, Nat.one_mul] at hl
  have e1 := OL K (ws := ws) (hr h (.head _)) hm.c
  have hlen : (Qi acc).length ≤ 1000000 := by rw [QJ]; lia
  have hll := O4 chs h
  have hsum : (Qi acc).length + (Qi (X2 h chs)).length ≤ 1000000 := by rw [QJ, QJ]; lia
  obtain ⟨v', hh⟩ := ih (acc ++ X2 h chs) (some (.sh (.tup (iL h)))) (fun x hx => hr x (.tail _ hx)) (by rw [List.length_append]; lia)
  refine ⟨v', ?_⟩
  rw [show acc ++ (ldL chs (h :: hs)).flatten = acc ++ X2 h chs ++ (ldL chs hs).flatten by rw [List.append_assoc]; rfl]
  rw [show Qi (acc ++ X2 h chs) = Qi acc ++ Qi (X2 h chs) from List.map_append] at hh
  show Xs _ _ (D.tup (iL h) :: Qi hs) _ = _
  unfold mth at *
  repeat' (first|(with_reducible first|assumption|exact QO|exact Zb|exact Yw|exact Qt|apply Qp|apply Yz|exact Qz|apply Qn|apply Qu|apply Qq|apply Xh|apply Lh|apply Uk|apply Md|apply MT|apply MM|apply QZ|apply Xo|apply MZ|apply M2)|exact Q6 rfl|exact (rfl : Qg _ = true)|exact (rfl : (_ : Option _) = some _)|decide)
theorem Em (ds : List D) (d : D) (hl : ds.length ≤ 1000) : YB (.list (ds ++ [d])) none (some (-1)) = some (.ow true (.list ds)) := by
 rw [JI (by rw [List.length_append]; simp; exact omB hl)]
 have : clipAt (ds ++ [d]).length (-1) = ds.length := by
  have := clipAt_neg (ds ++ [d]).length 1 (by decide)
  rw [show (-((1 : Nat) : Int)) = -1 from rfl, List.length_append] at this
  rw [List.length_append, this]; rfl
 show some (T.ow true (.list ((ds ++ [d]).take (clipAt (ds ++ [d]).length (-1) - 0)))) = _
 rw [this, Nat.sub_zero, List.take_append_of_le_length (Nat.le_refl _), List.take_length]
theorem Gz (K : Frag) {n : Nat} {chs ws : List (List Nat)} (hm : Mth n chs ws) {t : List Nat} (hc : ∀ c ∈ t, c < ws.length) (ht : t.length ≤ 40) : Ky K [mth n chs ws, .list (nD t)] = .ok (.ow true (.list (Qi (ldL chs (hds chs ws (rng n) t)).flatten))) := by
 have e1 := EC K hm hc ht
 have hl := VA chs ws t (rng n)
 have e2 : YB (.list (Qi (hds chs ws (rng n) t ++ [YG chs ws (rng n) t]))) none (some (-1)) = some (.ow true (.list (Qi (hds chs ws (rng n) t)))) := by
  rw [← Jp]
  exact Em _ _ (by rw [QJ]; (rw [hl]; exact Nat.le_trans ht (by decide)))
 have e3 : Jl (.int 1) = some (.sh (.int (-1))) := rfl
 have e4 : X0 (.list (Qi (hds chs ws (rng n) t))) = some (Qi (hds chs ws (rng n) t)) := rfl
 have hcl := hm.c.len
 have hb : t.length * (chs.length + 1) ≤ 40 * 31 := Nat.mul_le_mul ht (by exact Nat.succ_le_succ hcl)
 obtain ⟨v, h⟩ := V7 K (dc := .list (nD t)) hm (hds chs ws (rng n) t) [] none (Ed hm t (W6 hm.c.h3 hm.c.h12) hc).1 (by rw [hl]; simp; exact omB hb)
 have h : Xs (QF 3) _ (Qi (hds chs ws (rng n) t)) [some (.sh (mth n chs ws)), some (.sh (.list (nD t))), some (.ow true (.list [])), none] = .ok .next [some (.sh (mth n chs ws)), some (.sh (.list (nD t))), some (.ow true (.list (Qi (ldL chs (hds chs ws (rng n) t)).flatten))), v] := h
 unfold Ky CQ
 refine' QU [some (.sh (mth n chs ws)), some (.sh (.list (nD t))), none, none] rfl rfl ?_ Q0
 unfold mth at *
 repeat' (first|(with_reducible first|assumption|exact QO|exact Zl|exact Zb|exact QH|exact Qt|apply Qp|exact XX|exact Xk|exact QY|exact Zo|apply Qn|apply QE|apply Qu|apply QC|apply Z1|apply XJ|apply Yu|apply ZL|apply QG|apply Qq|apply Q7|apply Q9|apply Md|apply Mf|apply Mj|apply Ml|apply Mr|apply MJ|apply MV|apply MW|apply MM|exact MN)|exact Q6 rfl|exact (rfl : Qg _ = true)|exact J6 rfl|exact (rfl : (_ : Option _) = some _)|decide)
noncomputable def Xz (n : Nat) (chs ws : List (List Nat)) (t : List Nat) : List (List Int) := (ldL chs (hds chs ws (rng n) t)).flatten
theorem KC (K : Frag) {n : Nat} {chs ws : List (List Nat)} (hm : Mth n chs ws) {t : List Nat} (hc : ∀ c ∈ t, c < ws.length) (ht : t.length ≤ 40) : YS K [mth n chs ws, .list (nD t)] = .ok (.sh (UZ (Yt (Xz n chs ws t)))) := by
 have e1 : Ky K [mth n chs ws, .list (nD t)] = .ok (.ow true (.list (Qi (Xz n chs ws t)))) := Gz K hm hc ht
 have hcl := hm.c.len
 have hb : t.length * (chs.length + 1) ≤ 40 * 31 := Nat.mul_le_mul ht (by exact Nat.succ_le_succ hcl)
 have e2 := OB K (Xz n chs ws t) (by unfold Xz; rw [Bl, VA]; exact omB hb)
 have lf := O1 (Yt (Xz n chs ws t))
 generalize UZ (Yt (Xz n chs ws t)) = X at *
 generalize Qi (Xz n chs ws t) = Y at *
 unfold YS VE
 refine' QU [some (.sh (mth n chs ws)), some (.sh (.list (nD t)))] rfl rfl ?_ Q0
 repeat' (first|(with_reducible first|assumption|exact Zl|exact QH|exact Qt|apply Qp|exact QX|apply Qn|apply QE|apply QB|apply Qu|apply QC|apply Qq|apply QS|apply Md|apply Mj|apply Ml|apply Mm|apply MR|exact MN)|exact Q6 rfl|exact (rfl : Qg _ = true)|exact (rfl : (_ : Option _) = some _)|decide)
theorem Gh {f : AEnv → Res Bv} {g h : AEnv → Res (Option Int)} {C : Addr} {ρ ρ₁ : AEnv} (e : f ρ = .exc C ρ₁) : ZQ f g h ρ = .exc C ρ₁ := by
 conv => lhs; whnf; rw [e]
theorem JL (K : Frag) {m d : D} (h : X5 K [m, d] = .exc 92) : YS K [m, d] = .exc 92 := by
 have e1 : Wn K [m, d] = .exc 92 := by
  unfold Wn VD
  refine' QU [some (.sh m), some (.sh d), none, none] rfl rfl ?_ Z9
  repeat' (first|(with_reducible first|assumption|exact Zb|exact Qt|apply Qp|exact Us|exact XX|exact QY|apply Qn|apply QE|apply QB|apply Qu|apply QC|apply XJ|apply QG|apply Qq|apply QS|apply Xh|apply Q7|apply Q9|exact Me|apply Mj|exact Mk|apply Ml|exact Mn|apply Mr|exact MK|exact MS|exact MU|apply MV|exact MX|apply MM|exact MO)|exact (rfl : Qg _ = true)|exact (rfl : (_ : Option _) = some _)|decide)
 have e2 : Ky K [m, d] = .exc 92 := by
  unfold Ky CQ
  refine' QU [some (.sh m), some (.sh d), none, none] rfl rfl ?_ Z9
  have s1 : ZQ (Qc (QA (Wn K) (Qb (eOp 0) (Qb (eOp 1) Qj)))) Zt (Jf (Qc (Jq Jl (Qc (Qd (.int 1)))))) [some (.sh m), some (.sh d), some (.ow true (.list [])), none] = .exc 92 [some (.sh m), some (.sh d), some (.ow true (.list [])), none] := Gh (by repeat' (first|(with_reducible first|assumption|exact Zb|exact Qt|apply Qp|exact Us|exact XX|exact QY|apply Qn|apply QE|apply QB|apply Qu|apply QC|apply XJ|apply QG|apply Qq|apply QS|apply Xh|apply Q7|apply Q9|exact Me|apply Mj|exact Mk|apply Ml|exact Mn|apply Mr|exact MK|exact MS|exact MU|apply MV|exact MX|apply MM|exact MO)|exact (rfl : Qg _ = true)|exact (rfl : (_ : Option _) = some _)|decide))
  repeat' (first|(with_reducible first|assumption|exact Zb|exact Qt|apply Qp|exact Us|exact XX|exact QY|apply Qn|apply QE|apply QB|apply Qu|apply QC|apply XJ|apply QG|apply Qq|apply QS|apply Xh|apply Q7|apply Q9|exact Me|apply Mj|exact Mk|apply Ml|exact Mn|apply Mr|exact MK|exact MS|exact MU|apply MV|exact MX|apply MM|exact MO)|exact (rfl : Qg _ = true)|exact (rfl : (_ : Option _) = some _)|decide)
 unfold YS VE
 refine' QU [some (.sh m), some (.sh d)] rfl rfl ?_ Z9
 repeat' (first|(with_reducible first|assumption|exact Zb|exact Qt|apply Qp|exact Us|exact XX|exact QY|apply Qn|apply QE|apply QB|apply Qu|apply QC|apply XJ|apply QG|apply Qq|apply QS|apply Xh|apply Q7|apply Q9|exact Me|apply Mj|exact Mk|apply Ml|exact Mn|apply Mr|exact MK|exact MS|exact MU|apply MV|exact MX|apply MM|exact MO)|exact (rfl : Qg _ = true)|exact (rfl : (_ : Option _) = some _)|decide)
end Mine
end

section
set_option Elab.async false
set_option maxRecDepth 100000
set_option maxHeartbeats 4000000
set_option linter.unusedSimpArgs false
set_option linter.unusedVariables false
namespace Mine
open PySem PySem.W
theorem Va (K : Frag) {n : Nat} {chs ws : List (List Nat)} {dc : D} : ∀ (hs : List (List Int)) (v : Option T), (∀ h ∈ hs, Row n h) → ∃ v', ∀ r, Xs (QF 2) (Qo (XF (Qc (J0 285 "need_head" 0 (QI K) (Qb (eOp 2) Qj)))) Qy) (Qi hs ++ r) [some (.sh (mth n chs ws)), some (.sh dc), v] = Xs (QF 2) (Qo (XF (Qc (J0 285 "need_head" 0 (QI K) (Qb (eOp 2) Qj)))) Qy) r [some (.sh (mth n chs ws)), some (.sh dc), v'] := by
 intro hs
 induction hs with
 | nil => intro v _; exact ⟨v, fun r => rfl⟩
 | cons h hs ih =>
  intro v hr
  have e1 := WT K (chs := chs) (ws := ws) (hr h (.head _))
  obtain ⟨v', h2⟩ := ih (some (.sh (.tup (iL h)))) fun x hx => hr x (.tail _ hx)
  refine ⟨v', fun r => ?_⟩
  have h2 := h2 r
  show Xs _ _ (D.tup (iL h) :: (Qi hs ++ r)) _ = _
  generalize Xs (QF 2) (Qo (XF (Qc (J0 285 "need_head" 0 (QI K) (Qb (eOp 2) Qj)))) Qy) r [some (.sh (mth n chs ws)), some (.sh dc), v'] = X at h2 ⊢
  unfold mth at *
  repeat' (first|(with_reducible first|assumption|exact QO|exact Zb|exact Qt|apply Qp|exact Qz|apply Qn|apply Qu|apply Qq|apply Xh|apply Uk|apply Md|apply MT|apply MM|apply QZ|apply Xo|apply MZ|apply M2)|exact Q6 rfl|exact (rfl : Qg _ = true)|exact (rfl : (_ : Option _) = some _)|decide)
theorem Vn (K : Frag) {n : Nat} {chs ws : List (List Nat)} {hs : List (List Int)} (hr : ∀ h ∈ hs, Row n h) (hl : hs.length ≤ 60) : XO K [mth n chs ws, .list (Qi hs)] = .ok (.sh .none) := by
 have e1 := Y3 K (Qi hs)
 have e2 := XA (ds := Qi hs) (by rw [QJ]; exact omB hl)
 rw [QJ] at e2
 have e3 := VN (a := (hs.length : Int)) (b := 60) (by lia)
 obtain ⟨v, h⟩ := Va K (n := n) (chs := chs) (ws := ws) (dc := .list (Qi hs)) hs none hr
 have h := h []
 rw [List.append_nil] at h
 have h : Xs (QF 2) _ (Qi hs) [some (.sh (mth n chs ws)), some (.sh (.list (Qi hs))), none] = .ok .next [some (.sh (mth n chs ws)), some (.sh (.list (Qi hs))), v] := h
 have e4 : X0 (.list (Qi hs)) = some (Qi hs) := rfl
 unfold XO Yg
 refine' QU [some (.sh (mth n chs ws)), some (.sh (.list (Qi hs))), none] rfl rfl ?_ U8
 repeat' (first|(with_reducible first|assumption|exact QO|exact QH|exact Qt|apply Qp|exact Xk|exact Xi|exact Qz|exact Q5|apply Qn|apply QE|apply QT|apply Qu|apply QK|apply QP|apply Xp|apply XR|apply QG|apply Qq|apply Q2|apply Q9|apply Md|apply Mi|apply Ml|apply Ms|apply Mz|apply MA|apply MJ|apply MW|exact Mt|apply My|apply MM|apply MQ)|exact (rfl : Qg _ = true)|exact QN rfl|exact (rfl : (_ : Option _) = some _)|decide)
theorem UH (K : Frag) {m : D} {ds : List D} (h1 : 60 < ds.length) (h2 : ds.length ≤ 1000) : XO K [m, .list ds] = .exc 56 := by
 have e1 := Y3 K ds
 have e2 := XA (ds := ds) (by exact omB h2)
 have e3 := FL (a := (ds.length : Int)) (b := 60) (by exact Int.ofNat_lt.mpr h1)
 unfold XO Yg
 refine' QU [some (.sh m), some (.sh (.list ds)), none] rfl rfl ?_ Z9
 repeat' (first|(with_reducible first|assumption|exact QO|exact QH|exact Qt|apply Qp|exact XX|apply Zj|exact Xk|exact QL|exact QY|exact Q5|apply Qn|apply QE|apply QT|apply Qu|apply QK|apply QV|apply QP|apply Xp|apply XR|apply Qq|apply Q2|apply ZI|apply Md|apply Mi|apply Ml|apply Mo|apply Mp|apply Ms|apply Mz|apply MA|exact Mt|exact Mx|apply My|exact MO|apply MP)|exact (rfl : Qg _ = true)|exact (rfl : (_ : Option _) = some _)|decide)
theorem OR (K : Frag) {n : Nat} {chs ws : List (List Nat)} {hs : List (List Int)} {d : D} {r : List D} (hr : ∀ h ∈ hs, Row n h) (hd : QI K [mth n chs ws, d] = .exc 56) (hl : (Qi hs ++ d :: r).length ≤ 1000) : XO K [mth n chs ws, .list (Qi hs ++ d :: r)] = .exc 56 := by
 by_cases h60 : 60 < (Qi hs ++ d :: r).length
 ·exact UH K h60 hl
 obtain ⟨v, h⟩ := Va K (n := n) (chs := chs) (ws := ws) (dc := .list (Qi hs ++ d :: r)) hs none hr
 have h := h (d :: r)
 generalize Qi hs ++ d :: r = A at *
 have e1 := Y3 K A
 have e2 := XA (ds := A) (by exact omB hl)
 have e3 := VN (a := (A.length : Int)) (b := 60) (by (exact_mod_cast h60))
 have e4 : X0 (.list A) = some A := rfl
 have h : Xs (QF 2) (Qo (XF (Qc (J0 285 "need_head" 0 (QI K) (Qb (eOp 2) Qj)))) Qy) A [some (.sh (mth n chs ws)), some (.sh (.list A)), none] = .exc 56 [some (.sh (mth n chs ws)), some (.sh (.list A)), some (.sh d)] := by
  rw [h]
  unfold mth at *
  repeat' (first|(with_reducible first|assumption|exact QO|exact Zb|exact QH|exact Qt|apply Qp|exact Us|exact Xk|exact Xi|exact Qz|exact Q5|apply Qn|apply QE|apply QT|apply Qu|apply QK|apply QP|apply Xp|apply XR|apply QG|apply Qq|apply Q2|apply Xh|apply Q9|apply Uk|apply Md|exact Me|apply Mi|apply Ml|apply Ms|apply Mz|apply MA|apply MJ|exact MU|apply MW|exact Mt|apply My|apply MM|exact MO|apply MQ|apply QZ|apply Xo|exact M1|apply M2)|exact (rfl : Qg _ = true)|exact QN rfl|exact (rfl : (_ : Option _) = some _)|decide)
 unfold XO Yg
 refine' QU [some (.sh (mth n chs ws)), some (.sh (.list A)), none] rfl rfl ?_ Z9
 repeat' (first|(with_reducible first|assumption|exact QO|exact Zb|exact QH|exact Qt|apply Qp|exact Us|exact Xk|exact Xi|exact Qz|exact Q5|apply Qn|apply QE|apply QT|apply Qu|apply QK|apply QP|apply Xp|apply XR|apply QG|apply Qq|apply Q2|apply Xh|apply Q9|apply Uk|apply Md|exact Me|apply Mi|apply Ml|apply Ms|apply Mz|apply MA|apply MJ|exact MU|apply MW|exact Mt|apply My|apply MM|exact MO|apply MQ|apply QZ|apply Xo|exact M1|apply M2)|exact (rfl : Qg _ = true)|exact QN rfl|exact (rfl : (_ : Option _) = some _)|decide)
theorem K8 (K : Frag) {m : D} : XO K [m, .none] = .exc 56 := by
 have e1 : Q1 K [.none, .glob (.type "list")] = some (.sh (.bool false)) := by kernel_rfl
 unfold XO Yg
 refine' QU [some (.sh m), some (.sh .none), none] rfl rfl ?_ Z9
 repeat' (first|(with_reducible first|assumption|exact QO|exact QH|exact Qt|apply Qp|exact XX|apply Zj|exact QL|exact QY|exact Q5|apply QE|apply Qu|apply QK|apply QV|apply QP|apply Xp|apply XR|apply Qq|apply Q2|apply ZI|apply Md|apply Mi|apply Ml|apply Mo|apply Mp|apply Ms|exact Mu|exact Mx|exact MO|apply MP)|exact (rfl : Qg _ = true)|exact (rfl : (_ : Option _) = some _)|decide)
theorem OV (K : Frag) {m : D} {ds : List D} : XO K [m, .tup ds] = .exc 56 := by
 have e1 : Q1 K [.tup ds, .glob (.type "list")] = some (.sh (.bool false)) := by kernel_rfl
 unfold XO Yg
 refine' QU [some (.sh m), some (.sh (.tup ds)), none] rfl rfl ?_ Z9
 repeat' (first|(with_reducible first|assumption|exact QO|exact QH|exact Qt|apply Qp|exact XX|apply Zj|exact QL|exact QY|exact Q5|apply QE|apply Qu|apply QK|apply QV|apply QP|apply Xp|apply XR|apply Qq|apply Q2|apply ZI|apply Md|apply Mi|apply Ml|apply Mo|apply Mp|apply Ms|exact Mu|exact Mx|exact MO|apply MP)|exact (rfl : Qg _ = true)|exact (rfl : (_ : Option _) = some _)|decide)
theorem ZX (K : Frag) {m d : D} (h : XO K [m, d] = .exc 56) : Xy K [m, d] = .exc 56 := by
 unfold Xy YO
 refine' QU [some (.sh m), some (.sh d), none, none, none] rfl rfl ?_ Z9
 repeat' (first|(with_reducible first|assumption|exact Qt|apply Qp|exact Us|apply Qn|apply QE|apply Qu|apply QC|apply Qq|apply Xh|exact Me|apply Mj|apply Ml|exact MU|exact MO)|exact (rfl : Qg _ = true)|exact (rfl : (_ : Option _) = some _)|decide)
noncomputable def mt (A B : List (List Int)) : Bool := (OY B 0 A).isSome
noncomputable def Ua (B : List (List Int)) : List (List (List Int)) → Option Nat
 | [] => none
 | A :: r => if mt A B = true then some 0 else (Ua B r).map (· + 1)
noncomputable def fmI : List (List (List Int)) → List (List (List Int)) → Option (Nat × Nat)
 | _, [] => none
 | P, B :: r => match Ua B P with
  | some a => some (a, P.length)
  | none => if (Wv B true 0 B).isSome = true then some (P.length, P.length) else fmI (P ++ [B]) r
theorem Dl {P r : List (List (List Int))} {B : List (List Int)} {a : Nat} (h : Ua B P = some a) : fmI P (B :: r) = some (a, P.length) := by conv => lhs; whnf; rw [h]
theorem BH {P r : List (List (List Int))} {B : List (List Int)} {x : Nat × Nat} (h : Ua B P = none) (h2 : Wv B true 0 B = some x) : fmI P (B :: r) = some (P.length, P.length) := by
 conv => lhs; whnf; rw [h]
 exact if_pos (by rw [h2]; rfl)
theorem EI {P r : List (List (List Int))} {B : List (List Int)} (h : Ua B P = none) (h2 : Wv B true 0 B = none) : fmI P (B :: r) = fmI (P ++ [B]) r := by
 conv => lhs; whnf; rw [h]
 exact if_neg (by rw [h2]; decide)
noncomputable def ldD (L : List (List (List Int))) : List D := L.map fun A => D.list (Qi A)
theorem Om (L : List (List (List Int))) : (ldD L).length = L.length := by unfold ldD; rw [List.length_map]
theorem C0 {L : List (List (List Int))} {i : Nat} {A : List (List Int)} (h : L[i]? = some A) (hl : L.length ≤ 1000) : Xn (.list (ldD L)) (.int i) = some (.sh (.list (Qi A))) := by
 have : i < L.length := (List.getElem?_eq_some_iff.mp h).1
 exact Z2 (by exact Int.ofNat_nonneg _) (by lia) (by rw [Int.toNat_natCast]; unfold ldD; rw [List.getElem?_map, h]; rfl)
theorem HA (K : Frag) {x0 x1 : D} {L : List (List (List Int))} {B : List (List Int)} {b : Nat} (hb : L[b]? = some B) (hL : L.length ≤ 1000) (hA : ∀ A ∈ L, A.length ≤ 1000) : ∀ (Q : List (List (List Int))) (i : Nat) (v : Option T), (L.take b).drop i = Q → ∃ ρ v',
  Xs (QF 4) (Qo (sIf (Xl YX (Qc (QA (JJ K) (Qb (Qc (Qr Xn (eOp 2) (eOp 4))) (Qb (Qc (Qr Xn (eOp 2) (eOp 3))) Qj)))) (Qc (Qd .none))) (Qo (XS (YK (Qw (Xe 4) (Qw (Xe 3) Xv)))) Qy) Qy) Qy) (nL (List.range' i Q.length)) [some (.sh x0), some (.sh x1), some (.ow true (.list (ldD L))), some (.sh (.int b)), v] = twR ((Ua B Q).map (· + i)) b ρ [some (.sh x0), some (.sh x1), some (.ow true (.list (ldD L))), some (.sh (.int b)), v'] := by
 intro Q
 induction Q with
 | nil => intro i v _; exact ⟨[], v, rfl⟩
 | cons A Q ih =>
  intro i v hd
  obtain ⟨ha, hr⟩ := Jv hd
  have hi : i < b := by
   have := (List.getElem?_eq_some_iff.mp ha).1
   rw [List.length_take] at this; lia
  have ha : L[i]? = some A := by rw [List.getElem?_take_of_lt hi] at ha; exact ha
  have e1 := C0 ha hL
  have e2 := C0 hb hL
  have e3 := D6 K A B (hA B (List.mem_of_getElem? hb))
  rw [List.length_cons, Wb]
  cases hm : OY B 0 A with
  | some y =>
   rw [hm] at e3
   have e3 : JJ K [.list (Qi A), .list (Qi B)] = .ok (.sh (Zh y)) := e3
   have e4 : YX (Zh y) .none = some (.sh (.bool true)) := rfl
   have e5 : Ua B (A :: Q) = some 0 := if_pos (by unfold mt; rw [hm]; rfl)
   rw [e5]
   refine ⟨[some (.sh x0), some (.sh x1), some (.ow true (.list (ldD L))), some (.sh (.int b)), some (.sh (.int i))], v, ?_⟩
   show _ = Res.ok (Fl.ret (T.sh (.tup [.int ((0 + i : Nat) : Int), .int (b : Nat)]))) _
   rw [Nat.zero_add]
   repeat' (first|(with_reducible first|assumption|exact QO|exact Uw|exact QH|exact Qt|apply Qp|exact XX|apply Zj|exact Xk|exact QX|exact QY|exact Qz|apply QB|apply ZH|apply QT|apply Xf|apply Qu|apply QC|apply QV|apply ZN|apply Qq|apply Q2|apply QS|apply Md|apply Mg|apply Mj|apply Ml|apply Mm|apply Mo|apply Mp|apply Mq|apply Mz|apply MA|apply MR|apply MM|exact MN|apply MP|apply MQ|apply QZ|apply Xo|apply MZ|exact M0)|exact Q6 rfl|exact (rfl : Qg _ = true)|exact QN rfl|exact (rfl : (_ : Option _) = some _)|decide)
  | none =>
   rw [hm] at e3
   have e3 : JJ K [.list (Qi A), .list (Qi B)] = .ok (.sh .none) := e3
   have e4 : YX .none .none = some (.sh (.bool false)) := rfl
   have e5 : Ua B (A :: Q) = (Ua B Q).map (· + 1) := if_neg (by unfold mt; rw [hm]; decide)
   obtain ⟨ρ, v', h⟩ := ih (i + 1) (some (.sh (.int i))) hr
   refine ⟨ρ, v', ?_⟩
   rw [e5, FK]
   generalize twR ((Ua B Q).map (· + (i + 1))) b ρ [some (.sh x0), some (.sh x1), some (.ow true (.list (ldD L))), some (.sh (.int b)), v'] = X at h ⊢
   repeat' (first|(with_reducible first|assumption|exact QO|exact Uw|exact QH|exact Qt|apply Qp|exact XX|apply Zj|exact Xk|exact QX|exact QY|exact Qz|apply QB|apply ZH|apply QT|apply Xf|apply Qu|apply QC|apply QV|apply ZN|apply Qq|apply Q2|apply QS|apply Md|apply Mg|apply Mj|apply Ml|apply Mm|apply Mo|apply Mp|apply Mq|apply Mz|apply MA|apply MR|apply MM|exact MN|apply MP|apply MQ|apply QZ|apply Xo|apply MZ|exact M0)|exact Q6 rfl|exact (rfl : Qg _ = true)|exact QN rfl|exact (rfl : (_ : Option _) = some _)|decide)
theorem Hh (o : Option Nat) : o.map (· + 0) = o := by cases o <;> rfl
theorem G1 (K : Frag) {x0 x1 : D} {L : List (List (List Int))} (hL : L.length ≤ 1000) (hA : ∀ A ∈ L, A.length ≤ 1000) : ∀ (rest : List (List (List Int))) (j : Nat) (v1 v2 : Option T), L.drop j = rest → ∃ ρ,
  Xs (QF 3) (Qo (YA (Xu (Q8 XN (Qb (eOp 3) Qj))) (QF 4) (Qo (sIf (Xl YX (Qc (QA (JJ K) (Qb (Qc (Qr Xn (eOp 2) (eOp 4))) (Qb (Qc (Qr Xn (eOp 2) (eOp 3))) Qj)))) (Qc (Qd .none))) (Qo (XS (YK (Qw (Xe 4) (Qw (Xe 3) Xv)))) Qy) Qy) Qy)) (Qo (sIf (Xl YX (Qc (QA (Z7 K) (Qb (Qc (Qr Xn (eOp 2) (eOp 3))) Qj))) (Qc (Qd .none))) (Qo (XS (YK (Qw (Xe 3) (Qw (Xe 3) Xv)))) Qy) Qy) Qy)) (nL (List.range' j rest.length)) [some (.sh x0), some (.sh x1), some (.ow true (.list (ldD L))), v1, v2] = tw (fmI (L.take j) rest) ρ := by
 intro rest
 induction rest with
 | nil => intro j v1 v2 _; exact ⟨_, rfl⟩
 | cons B r ih =>
  intro j v1 v2 hd
  obtain ⟨hb, hr⟩ := Jv hd
  have hj := (List.getElem?_eq_some_iff.mp hb).1
  have htl : (L.take j).length = j := by rw [List.length_take]; lia
  have e1 : XN [.int (j : Int)] = some (.sh (.range 0 j 1)) := rfl
  have e2 := Je (m := j) (by exact Nat.le_trans (Nat.le_of_lt hj) hL)
  have e3 := C0 hb hL
  have e4 := Vo K B (hA B (List.mem_of_getElem? hb))
  obtain ⟨ρ, v', h⟩ := HA K (x0 := x0) (x1 := x1) hb hL hA (L.take j) 0 v2 rfl
  rw [htl, Hh] at h
  rw [List.length_cons, Wb]
  cases hk : Ua B (L.take j) with
  | some i =>
   rw [hk] at h
   have h : Xs (QF 4) _ (nL (List.range' 0 j)) [some (.sh x0), some (.sh x1), some (.ow true (.list (ldD L))), some (.sh (.int j)), v2] = .ok (.ret (.sh (Zh (i, j)))) ρ := h
   refine ⟨ρ, ?_⟩
   rw [Dl hk, htl]
   show _ = Res.ok (Fl.ret (T.sh (Zh (i, j)))) ρ
   repeat' (first|(with_reducible first|assumption|exact QO|exact Yw|exact QH|exact Qt|apply Qp|exact XX|apply Zj|exact Xk|exact QX|exact QY|exact Qz|apply Qn|apply QB|apply ZH|apply QT|apply Xf|apply Qu|apply QK|apply QC|apply QV|apply ZN|apply QG|apply Qq|apply Q2|apply QS|apply Q9|apply Md|apply Mg|apply Mi|apply Mj|apply Ml|apply Mm|apply Mo|apply Mp|apply Mq|apply Mz|apply MA|apply MJ|apply MR|apply MW|apply MM|exact MN|apply MP|apply MQ|apply QZ|apply Xo|apply MZ|exact M0)|exact Q6 rfl|exact (rfl : Qg _ = true)|exact QN rfl|exact (rfl : (_ : Option _) = some _)|decide)
  | none =>
   rw [hk] at h
   have h : Xs (QF 4) _ (nL (List.range' 0 j)) [some (.sh x0), some (.sh x1), some (.ow true (.list (ldD L))), some (.sh (.int j)), v2] = .ok .next [some (.sh x0), some (.sh x1), some (.ow true (.list (ldD L))), some (.sh (.int j)), v'] := h
   cases hs : Wv B true 0 B with
   | some y =>
    rw [hs] at e4
    have e4 : Z7 K [.list (Qi B)] = .ok (.sh (Zh y)) := e4
    have e5 : YX (Zh y) .none = some (.sh (.bool true)) := rfl
    refine ⟨[some (.sh x0), some (.sh x1), some (.ow true (.list (ldD L))), some (.sh (.int j)), v'], ?_⟩
    rw [BH hk hs, htl]
    show _ = Res.ok (Fl.ret (T.sh (.tup [.int (j : Nat), .int (j : Nat)]))) _
    repeat' (first|(with_reducible first|assumption|exact QO|exact Yw|exact QH|exact Qt|apply Qp|exact XX|apply Zj|exact Xk|exact QX|exact QY|exact Qz|apply Qn|apply QB|apply ZH|apply QT|apply Xf|apply Qu|apply QK|apply QC|apply QV|apply ZN|apply QG|apply Qq|apply Q2|apply QS|apply Q9|apply Md|apply Mg|apply Mi|apply Mj|apply Ml|apply Mm|apply Mo|apply Mp|apply Mq|apply Mz|apply MA|apply MJ|apply MR|apply MW|apply MM|exact MN|apply MP|apply MQ|apply QZ|apply Xo|apply MZ|exact M0)|exact Q6 rfl|exact (rfl : Qg _ = true)|exact QN rfl|exact (rfl : (_ : Option _) = some _)|decide)
   | none =>
    rw [hs] at e4
    have e4 : Z7 K [.list (Qi B)] = .ok (.sh .none) := e4
    have e5 : YX .none .none = some (.sh (.bool false)) := rfl
    obtain ⟨ρ₂, h₂⟩ := ih (j + 1) (some (.sh (.int j))) v' hr
    refine ⟨ρ₂, ?_⟩
    rw [EI hk hs, show L.take j ++ [B] = L.take (j + 1) by rw [List.take_add_one, hb]; rfl]
    generalize tw (fmI (L.take (j + 1)) r) ρ₂ = X at h₂ ⊢
    repeat' (first|(with_reducible first|assumption|exact QO|exact Yw|exact QH|exact Qt|apply Qp|exact XX|apply Zj|exact Xk|exact QX|exact QY|exact Qz|apply Qn|apply QB|apply ZH|apply QT|apply Xf|apply Qu|apply QK|apply QC|apply QV|apply ZN|apply QG|apply Qq|apply Q2|apply QS|apply Q9|apply Md|apply Mg|apply Mi|apply Mj|apply Ml|apply Mm|apply Mo|apply Mp|apply Mq|apply Mz|apply MA|apply MJ|apply MR|apply MW|apply MM|exact MN|apply MP|apply MQ|apply QZ|apply Xo|apply MZ|exact M0)|exact Q6 rfl|exact (rfl : Qg _ = true)|exact QN rfl|exact (rfl : (_ : Option _) = some _)|decide)
theorem Fy (K : Frag) {n : Nat} {chs ws : List (List Nat)} (hc : Chs n chs) {hs : List (List Int)} (hr : ∀ h ∈ hs, Row n h) (hl : hs.length ≤ 1000) : Yl (QF 1) Ux (J0 285 "lead" 2 (Zk K) (Qb (eOp 1) Qj)) [none, none, some (.sh (mth n chs ws))] (Qi hs) [] = some (ldD (ldL chs hs)) := by
 have := Y1 (b := QF 1) (f := (J0 285 "lead" 2 (Zk K) (Qb (eOp 1) Qj))) (ρ₀ := [none, none, some (.sh (mth n chs ws))]) (g := fun d => match Z6 d with | some a => .list (Qi (X2 a chs)) | none => .none) (Qi hs) (fun d hd => ?_) (by rw [QJ]; exact omB hl)
 ·rw [this]
  unfold ldD ldL Qi
  rw [List.map_map, List.map_map]
  congr 2; funext a
  show (match Z6 (.tup (iL a)) with | some a => D.list (Qi (X2 a chs)) | none => .none) = _
  rw [ZZ]; rfl
 ·obtain ⟨h, hh, rfl⟩ := List.mem_map.mp hd
  have e1 := OL K (ws := ws) (hr h hh) hc
  refine ⟨[none, some (.sh (.tup (iL h))), some (.sh (mth n chs ws))], .ow true (.list (Qi (X2 h chs))), [none, some (.sh (.tup (iL h))), some (.sh (mth n chs ws))], rfl, ?_, by show _ = (match Z6 (.tup (iL h)) with | some a => D.list (Qi (X2 a chs)) | none => .none); rw [ZZ]; rfl⟩
  unfold mth at *
  repeat' (first|(with_reducible first|assumption|exact Qt|apply Qp|apply Qn|apply Uk|apply M2)|exact Q6 rfl|exact (rfl : Qg _ = true)|exact (rfl : (_ : Option _) = some _)|decide)
theorem Ke {chs : List (List Nat)} {hs : List (List Int)} : (ldL chs hs).length = hs.length := by unfold ldL; rw [List.length_map]
theorem Du {chs : List (List Nat)} {hs : List (List Int)} (hc : chs.length ≤ 30) : ∀ A ∈ ldL chs hs, A.length ≤ 31 := fun A hA => by
 obtain ⟨h, _, rfl⟩ := List.mem_map.mp hA
 rw [O4]; exact Nat.succ_le_succ hc
theorem Ue (K : Frag) {n : Nat} {chs ws : List (List Nat)} (hc : Chs n chs) {hs : List (List Int)} (hr : ∀ h ∈ hs, Row n h) (hl : hs.length ≤ 60) : Xy K [mth n chs ws, .list (Qi hs)] = .ok (.sh (UZ (fmI [] (ldL chs hs)))) := by
 have e1 := Vn K (chs := chs) (ws := ws) hr hl
 have e2 := Fy K (ws := ws) hc hr (by exact omB hl)
 have e3 : X0 (.list (Qi hs)) = some (Qi hs) := rfl
 have e4 := XA (ds := ldD (ldL chs hs)) (by rw [Om, Ke]; exact omB hl)
 rw [Om, Ke] at e4
 have e5 : XN [.int (hs.length : Int)] = some (.sh (.range 0 hs.length 1)) := rfl
 have e6 := Je (m := hs.length) (by exact omB hl)
 have hcl := hc.len
 obtain ⟨ρ, h2⟩ := G1 K (x0 := mth n chs ws) (x1 := .list (Qi hs)) (L := ldL chs hs) (by rw [Ke]; exact omB hl) (fun A hA => Nat.le_trans (Du hc.len A hA) (by decide)) (ldL chs hs) 0 none none rfl
 rw [Ke] at h2
 have h2 : Xs (QF 3) _ (nL (List.range' 0 hs.length)) [some (.sh (mth n chs ws)), some (.sh (.list (Qi hs))), some (.ow true (.list (ldD (ldL chs hs)))), none, none] = tw (fmI [] (ldL chs hs)) ρ := h2
 unfold Xy YO
 cases ht : fmI [] (ldL chs hs) with
 | some y =>
  rw [ht] at h2
  have h2 : Xs (QF 3) _ (nL (List.range' 0 hs.length)) [some (.sh (mth n chs ws)), some (.sh (.list (Qi hs))), some (.ow true (.list (ldD (ldL chs hs)))), none, none] = .ok (.ret (.sh (Zh y))) ρ := h2
  show _ = FOut.ok (.sh (Zh y))
  refine' QU [some (.sh (mth n chs ws)), some (.sh (.list (Qi hs))), none, none, none] rfl rfl ?_ Q0
  repeat' (first|(with_reducible first|assumption|exact QO|exact Zb|exact QH|exact Qt|apply Qp|exact Zz|apply X8|apply ZM|exact K7|exact QL|exact QX|apply Qn|apply QE|apply QB|apply Qu|apply QK|apply QC|apply QG|apply XM|apply Qq|apply QS|apply Xh|apply Q7|apply Q9|apply Md|apply Mi|apply Mj|apply Ml|apply Mm|apply MJ|apply MR|apply MT|apply MV|apply MW|apply MM|exact MN)|exact Q6 rfl|exact (rfl : Qg _ = true)|exact QN rfl|exact (rfl : (_ : Option _) = some _)|decide)
 | none =>
  rw [ht] at h2
  have h2 : Xs (QF 3) _ (nL (List.range' 0 hs.length)) [some (.sh (mth n chs ws)), some (.sh (.list (Qi hs))), some (.ow true (.list (ldD (ldL chs hs)))), none, none] = .ok .next ρ := h2
  show _ = FOut.ok (.sh .none)
  refine' QU [some (.sh (mth n chs ws)), some (.sh (.list (Qi hs))), none, none, none] rfl rfl ?_ Q0
  repeat' (first|(with_reducible first|assumption|exact QO|exact Zb|exact QH|exact Qt|apply Qp|exact Zz|apply X8|apply ZM|exact K7|exact QL|exact QX|apply Qn|apply QE|apply QB|apply Qu|apply QK|apply QC|apply QG|apply XM|apply Qq|apply QS|apply Xh|apply Q7|apply Q9|apply Md|apply Mi|apply Mj|apply Ml|apply Mm|apply MJ|apply MR|apply MT|apply MV|apply MW|apply MM|exact MN)|exact Q6 rfl|exact (rfl : Qg _ = true)|exact QN rfl|exact (rfl : (_ : Option _) = some _)|decide)
end Mine
end

section
set_option Elab.async false
set_option maxRecDepth 100000
set_option maxHeartbeats 4000000
set_option linter.unusedSimpArgs false
set_option linter.unusedVariables false
namespace Mine
open PySem PySem.W
theorem Ot (B : List (List Int)) : ∀ (A : List (List Int)) (p : Nat), (OY B p A).isSome = true ↔ ∃ x, x ∈ A ∧ x ∈ B := by
 intro A
 induction A with
 | nil => intro p; exact ⟨fun h => (by cases h), fun ⟨x, h, _⟩ => (by cases h)⟩
 | cons a A ih =>
  intro p
  by_cases ha : a ∈ B
  ·obtain ⟨j, hj, _⟩ := Kb ha
   have : OY B p (a :: A) = some (p, j) := by conv => lhs; whnf; rw [hj]
   rw [this]
   exact ⟨fun _ => ⟨a, .head _, ha⟩, fun _ => rfl⟩
  ·have : OY B p (a :: A) = OY B (p + 1) A := by conv => lhs; whnf; rw [Ub ha]
   rw [this, ih]
   constructor
   ·rintro ⟨x, h1, h2⟩; exact ⟨x, .tail _ h1, h2⟩
   ·rintro ⟨x, h1, h2⟩
    rcases List.mem_cons.mp h1 with rfl | h1
    ·exact absurd h2 ha
    ·exact ⟨x, h1, h2⟩
theorem Wc (A : List (List Int)) : ∀ (rest : List (List Int)) (p : Nat), A.drop p = rest → (Wv A true p rest = none ↔ rest.Nodup) := by
 intro rest
 induction rest with
 | nil => intro p _; exact ⟨fun _ => .nil, fun _ => rfl⟩
 | cons a r ih =>
  intro p hd
  obtain ⟨_, hr⟩ := Jv hd
  have e := VL a p A 0
  rw [Nat.sub_zero, hr] at e
  rw [List.nodup_cons]
  cases hj : BQ a true p 0 A with
  | some j =>
   rw [hj] at e
   have : Wv A true p (a :: r) = some (p, j) := by conv => lhs; whnf; rw [hj]
   rw [this]
   exact ⟨fun h => (by cases h), fun h => absurd (of_decide_eq_true e.symm) h.1⟩
  | none =>
   rw [hj] at e
   have : Wv A true p (a :: r) = Wv A true (p + 1) r := by conv => lhs; whnf; rw [hj]
   rw [this, ih (p + 1) hr]
   exact ⟨fun h => ⟨of_decide_eq_false e.symm, h⟩, fun h => h.2⟩
theorem WS (A : List (List Int)) : Yt A = none ↔ A.Nodup := Hw A [] .nil
noncomputable def K1 (x : List Int) : List (List (List Int)) → Nat
 | [] => 0
 | A :: r => if x ∈ A then 0 else K1 x r + 1
theorem Cn {B : List (List Int)} : ∀ {P : List (List (List Int))} {a : Nat}, Ua B P = some a → (∃ x, x ∈ B ∧ x ∈ P.flatten ∧ K1 x P = a) ∧ ∀ y ∈ B, y ∈ P.flatten → a ≤ K1 y P := by
 intro P
 induction P with
 | nil => intro a h; cases h
 | cons A P ih =>
  intro a h
  by_cases hm : mt A B = true
  ·have e : Ua B (A :: P) = some 0 := if_pos hm
   rw [e] at h
   cases h
   obtain ⟨x, h1, h2⟩ := (Ot B A 0).mp hm
   exact ⟨⟨x, h2, List.mem_append_left _ h1, if_pos h1⟩, fun y _ _ => Nat.zero_le _⟩
  ·have e : Ua B (A :: P) = (Ua B P).map (· + 1) := if_neg hm
   rw [e] at h
   obtain ⟨b, hb, rfl⟩ := Option.map_eq_some_iff.mp h
   have hno : ∀ x, x ∈ B → x ∉ A := fun x h1 h2 => hm ((Ot B A 0).mpr ⟨x, h2, h1⟩)
   obtain ⟨⟨x, h1, h2, h3⟩, h4⟩ := ih hb
   refine ⟨⟨x, h1, List.mem_append_right _ h2, ?_⟩, fun y hy hf => ?_⟩
   ·exact (if_neg (hno x h1)).trans (congrArg (· + 1) h3)
   ·have : K1 y (A :: P) = K1 y P + 1 := if_neg (hno y hy)
    rw [this]
    rcases List.mem_append.mp hf with hf | hf
    ·exact absurd hf (hno y hy)
    ·exact Nat.succ_le_succ (h4 y hy hf)
theorem OA {B : List (List Int)} : ∀ {P : List (List (List Int))}, Ua B P = none ↔ ∀ y ∈ B, y ∉ P.flatten := by
 intro P
 induction P with
 | nil => exact ⟨fun _ y _ h => (by cases h), fun _ => rfl⟩
 | cons A P ih =>
  by_cases hm : mt A B = true
  ·have e : Ua B (A :: P) = some 0 := if_pos hm
   rw [e]
   obtain ⟨x, h1, h2⟩ := (Ot B A 0).mp hm
   exact ⟨fun h => (by cases h), fun h => absurd (List.mem_append_left _ h1) (h x h2)⟩
  ·have e : Ua B (A :: P) = (Ua B P).map (· + 1) := if_neg hm
   rw [e, Option.map_eq_none_iff, ih]
   have hno : ∀ x, x ∈ B → x ∉ A := fun x h1 h2 => hm ((Ot B A 0).mpr ⟨x, h2, h1⟩)
   constructor
   ·intro h y hy hf
    rcases List.mem_append.mp hf with hf | hf
    ·exact hno y hy hf
    ·exact h y hy hf
   ·intro h y hy hf
    exact h y hy (List.mem_append_right _ hf)
theorem Iw : ∀ (L P : List (List (List Int))), P.flatten.Nodup → (fmI P L = none ↔ (P.flatten ++ L.flatten).Nodup) := by
 intro L
 induction L with
 | nil => intro P hp; rw [show ([] : List (List (List Int))).flatten = [] from rfl, List.append_nil]; exact ⟨fun _ => hp, fun _ => rfl⟩
 | cons B r ih =>
  intro P hp
  have hf : (B :: r).flatten = B ++ r.flatten := rfl
  have hs : (P ++ [B]).flatten = P.flatten ++ B := by rw [List.flatten_append]; exact congrArg (P.flatten ++ ·) (List.append_nil B)
  rw [hf, ← List.append_assoc, ← hs]
  cases hh : Ua B P with
  | some a =>
   rw [Dl hh]
   obtain ⟨⟨x, h1, h2, _⟩, _⟩ := Cn hh
   refine ⟨fun h => (by cases h), fun h => ?_⟩
   rw [hs, List.append_assoc] at h
   exact absurd rfl ((List.nodup_append.mp h).2.2 x h2 x (List.mem_append_left _ h1))
  | none =>
   cases hd : Wv B true 0 B with
   | some y =>
    rw [BH hh hd]
    refine ⟨fun h => (by cases h), fun h => ?_⟩
    rw [hs, List.append_assoc] at h
    have := (List.nodup_append.mp (List.nodup_append.mp h).2.1).1
    rw [(Wc B B 0 rfl).mpr this] at hd
    cases hd
   | none =>
    rw [EI hh hd]
    refine ih (P ++ [B]) ?_
    rw [hs, List.nodup_append]
    refine ⟨hp, (Wc B B 0 rfl).mp hd, fun a ha b hb => ?_⟩
    rintro rfl
    exact OA.mp hh a hb ha
noncomputable def Y7 : Nat → List (List (List Int)) → List D
 | _, [] => []
 | i, A :: r => List.replicate A.length (.int (i : Nat)) ++ Y7 (i + 1) r
theorem Fe (B : List (List Int)) : ∀ (P : List (List (List Int))) (i : Nat), Y7 i (P ++ [B]) = Y7 i P ++ List.replicate B.length (.int ((i + P.length : Nat) : Int)) := by
 intro P
 induction P with
 | nil => intro i; show List.replicate B.length (D.int (i : Nat)) ++ [] = [] ++ _; rw [List.append_nil]; rfl
 | cons A P ih =>
  intro i
  show List.replicate A.length (D.int (i : Nat)) ++ Y7 (i + 1) (P ++ [B]) = List.replicate A.length (D.int (i : Nat)) ++ Y7 (i + 1) P ++ _
  rw [ih, List.append_assoc, List.length_cons, Nat.add_right_comm]; rfl
theorem GN {x : List Int} : ∀ {P : List (List (List Int))} {i j : Nat}, QM x P.flatten = some j → (Y7 i P)[j]? = some (.int ((K1 x P + i : Nat) : Int)) := by
 intro P
 induction P with
 | nil => intro i j h; cases h
 | cons A P ih =>
  intro i j h
  have h : QM x (A ++ P.flatten) = some j := h
  rw [Jh] at h
  show (List.replicate A.length (D.int (i : Nat)) ++ Y7 (i + 1) P)[j]? = _
  by_cases hx : x ∈ A
  ·obtain ⟨k, hk, hlt⟩ := Kb hx
   rw [hk] at h
   cases h
   rw [List.getElem?_append_left (by rw [List.length_replicate]; exact hlt), List.getElem?_replicate_of_lt hlt, show K1 x (A :: P) = 0 from if_pos hx, Nat.zero_add]
  ·rw [Ub hx] at h
   obtain ⟨k, hk, rfl⟩ := Option.map_eq_some_iff.mp h
   rw [List.getElem?_append_right (by rw [List.length_replicate]; exact Nat.le_add_left _ _), List.length_replicate, Nat.add_sub_cancel, ih hk, show K1 x (A :: P) = K1 x P + 1 from if_neg hx, Nat.add_assoc, Nat.add_comm 1]
theorem Ea {q : D → Bool} {g : D → D} {q' : List Int → Bool} {g' : List Int → Int} (hq : ∀ x, q (.tup (iL x)) = q' x) (hg : ∀ x, q' x = true → g (.tup (iL x)) = .int (g' x)) : ∀ B : List (List Int), ((Qi B).filter q).map g = iL ((B.filter q').map g') := by
 intro B
 induction B with
 | nil => rfl
 | cons x B ih =>
  show ((D.tup (iL x) :: Qi B).filter q).map g = _
  cases hx : q' x with
  | true => rw [List.filter_cons_of_pos (by rw [hq]; exact hx), List.filter_cons_of_pos hx, List.map_cons, ih, hg x hx]; rfl
  | false => rw [List.filter_cons_of_neg (by rw [hq, hx]; decide), List.filter_cons_of_neg (by rw [hx]; decide), ih]
noncomputable def C5 (P : List (List (List Int))) (B : List (List Int)) : List Int := (B.filter fun x => (QM x P.flatten).isSome).map fun x => (K1 x P : Int)
theorem G5 (P : List (List (List Int))) (B : List (List Int)) (hB : B.length ≤ 1000) : Yl (QF 1) (BN false (eOp 1) 2) (WQ 2 (eOp 1)) [none, none, some (.ow false (.dict P.flatten (Y7 0 P)))] (Qi B) [] = some (iL (C5 P B)) := by
 have := KF (b := QF 1) (t := BN false (eOp 1) 2) (f := WQ 2 (eOp 1)) (ρ₀ := [none, none, some (.ow false (.dict P.flatten (Y7 0 P)))]) (q := fun d => match Z6 d with | some x => (QM x P.flatten).isSome | none => false) (g := fun d => match Z6 d with | some x => .int (K1 x P : Nat) | none => .none) (Qi B) [] (fun d hd => ?_) (by rw [QJ]; simp; exact omB hB)
 ·rw [List.nil_append, Ea (q' := fun x => (QM x P.flatten).isSome) (g' := fun x => (K1 x P : Int)) (fun x => by rw [ZZ]) (fun x _ => by rw [ZZ])] at this
  exact this
 ·obtain ⟨x, hx, rfl⟩ := List.mem_map.mp hd
  have er := ZZ x
  refine ⟨[none, some (.sh (.tup (iL x))), some (.ow false (.dict P.flatten (Y7 0 P)))], [none, some (.sh (.tup (iL x))), some (.ow false (.dict P.flatten (Y7 0 P)))], rfl, ?_, fun hq => ?_⟩
  ·show _ = Res.ok (match Z6 (.tup (iL x)) with | some x => (QM x P.flatten).isSome | none => false) _
   rw [er]
   have e1 : ((QM x P.flatten).isSome != false) = (QM x P.flatten).isSome := by cases (QM x P.flatten).isSome <;> rfl
   repeat' (first|(with_reducible first|assumption|apply Xf|apply OJ|apply W1|apply WZ)|exact (rfl : Qg _ = true)|exact (rfl : (_ : Option _) = some _)|decide)
  ·have hq : (match Z6 (.tup (iL x)) with | some x => (QM x P.flatten).isSome | none => false) = true := hq
   rw [er] at hq
   obtain ⟨j, hj⟩ := Option.isSome_iff_exists.mp hq
   have e1 := GN (i := 0) hj
   refine ⟨.sh (.int ((K1 x P + 0 : Nat) : Int)), [none, some (.sh (.tup (iL x))), some (.ow false (.dict P.flatten (Y7 0 P)))], ?_, by show D.int _ = (match Z6 (.tup (iL x)) with | some x => D.int (K1 x P : Nat) | none => .none); rw [er]; rfl⟩
   repeat' (first|(with_reducible first|assumption|apply Xf|apply OJ|apply W1|apply WZ)|exact (rfl : Qg _ = true)|exact (rfl : (_ : Option _) = some _)|decide)
theorem HN {P : List (List (List Int))} {B : List (List Int)} {a : Nat} (h : Ua B P = some a) : Ga [.list (iL (C5 P B))] = some (.sh (.int a)) ∧ neI (.list (iL (C5 P B))) (.list []) = some (.sh (.bool true)) := by
 obtain ⟨⟨x, h1, h2, h3⟩, h4⟩ := Cn h
 have hm : (a : Int) ∈ C5 P B := List.mem_map.mpr ⟨x, List.mem_filter.mpr ⟨h1, U6.mpr h2⟩, by rw [h3]⟩
 have hle : ∀ b, b ∈ C5 P B → (a : Int) ≤ b := fun b hb => by
  obtain ⟨y, hy, rfl⟩ := List.mem_map.mp hb
  obtain ⟨hy1, hy2⟩ := List.mem_filter.mp hy
  exact Int.ofNat_le.mpr (h4 y hy1 (U6.mp hy2))
 generalize C5 P B = l at hm hle ⊢
 constructor
 ·cases hml : HX l with
  | none => cases l with
   | nil => cases hm
   | cons _ _ => cases hml
  | some m =>
   have := CB hml hm hle
   subst this
   show (Up (iL l)).bind (fun ns => (HX ns).map fun m => T.sh (.int m)) = _
   rw [Cq]
   show (HX l).map _ = _
   rw [hml]; rfl
 ·have := ON (Kc l [])
  rw [Kd.mpr (by rintro rfl; cases hm)] at this
  exact this
theorem Gn {P : List (List (List Int))} {B : List (List Int)} (h : Ua B P = none) : C5 P B = [] := by
 unfold C5
 rw [List.filter_eq_nil_iff.mpr fun x hx hk => OA.mp h x hx (U6.mp hk)]; rfl
theorem HQ (K : Frag) {x0 : D} {b : Nat} {F : List (List Int)} {V : List D} {v4 : Option T} {B : List (List Int)} (hF : ∀ y ∈ B, y ∉ F) (hB : B.Nodup) (hl : F.length + B.length ≤ 1000000) : ∀ (rest Q : List (List Int)) (v3 : Option T), Q ++ rest = B → ∃ v3',
  Xs (QF 3) (Qo (Bf 1 (eOp 3) (Xe 2)) Qy) (Qi rest) [some (.sh x0), some (.ow true (.dict (F ++ Q) (V ++ List.replicate Q.length (.int b)))), some (.sh (.int b)), v3, v4] = .ok .next [some (.sh x0), some (.ow true (.dict (F ++ B) (V ++ List.replicate B.length (.int b)))), some (.sh (.int b)), v3', v4] := by
 intro rest
 induction rest with
 | nil => intro Q v3 h; rw [List.append_nil] at h; subst h; exact ⟨v3, rfl⟩
 | cons x r ih =>
  intro Q v3 h
  have hx : x ∉ F ++ Q := by
   intro hm
   rcases List.mem_append.mp hm with hm | hm
   ·exact hF x (h ▸ List.mem_append_right _ (.head _)) hm
   ·rw [← h] at hB
    exact (List.nodup_append.mp hB).2.2 x hm x (.head _) rfl
  have hrow := ZZ x
  have hks : (F ++ Q).length ≤ 1000000 := by
   rw [List.length_append]
   have := congrArg List.length h
   rw [List.length_append] at this; lia
  obtain ⟨v3', h2⟩ := ih (Q ++ [x]) (some (.sh (.tup (iL x)))) (by rw [List.append_assoc]; exact h)
  refine ⟨v3', ?_⟩
  rw [show V ++ List.replicate (Q ++ [x]).length (D.int b) = V ++ List.replicate Q.length (D.int b) ++ [.int (b : Nat)] by rw [List.length_append, List.append_assoc, List.length_singleton, List.replicate_succ'], show F ++ (Q ++ [x]) = F ++ Q ++ [x] from (List.append_assoc _ _ _).symm, ← CC hx, ← CD (ks := F ++ Q) hx] at h2
  show Xs _ _ (D.tup (iL x) :: Qi r) _ = _
  repeat' (first|(with_reducible first|assumption|exact QO|exact Wl|exact Yw|exact Qz|apply Xf|apply Qq|apply JY|apply Dp|apply MM|apply QZ|apply Xo|apply MZ)|exact (rfl : Qg _ = true)|exact QN rfl|exact (rfl : (_ : Option _) = some _)|decide)
theorem Ij (K : Frag) {L : List (List (List Int))} (hL : L.length ≤ 100) (hA : ∀ A ∈ L, A.length ≤ 100) : ∀ (rest : List (List (List Int))) (j : Nat) (v2 v3 v4 : Option T), L.drop j = rest → ∃ ρ,
  Xs (QF 2) (Qo (Qx 4 (Ys [none, none, some 1] (Xu (Qr Xn (eOp 0) (eOp 2))) (QF 1) (BN false (eOp 1) 2) (WQ 2 (eOp 1)))) (Qo (sIf (Xl neI (eOp 4) (Qc (ZA Xv))) (Qo (XS (YK (Qw (Q8 Ga (Qb (eOp 4) Qj)) (Qw (Xe 2) Xv)))) Qy) Qy) (Qo (sIf (Xl YX (Qc (QA (Zm K) (Qb (Qc (Qr Xn (eOp 0) (eOp 2))) Qj))) (Qc (Qd .none))) (Qo (XS (YK (Qw (Xe 2) (Qw (Xe 2) Xv)))) Qy) Qy) (Qo (YA (Xu (Qr Xn (eOp 0) (eOp 2))) (QF 3) (Qo (Bf 1 (eOp 3) (Xe 2)) Qy)) Qy)))) (nL (List.range' j rest.length)) [some (.sh (.list (ldD L))), some (.ow true (.dict (L.take j).flatten (Y7 0 (L.take j)))), v2, v3, v4] = tw (fmI (L.take j) rest) ρ := by
 intro rest
 induction rest with
 | nil => intro j v2 v3 v4 _; exact ⟨_, rfl⟩
 | cons B r ih =>
  intro j v2 v3 v4 hd
  obtain ⟨hb, hr⟩ := Jv hd
  have hj := (List.getElem?_eq_some_iff.mp hb).1
  have htl : (L.take j).length = j := by rw [List.length_take]; exact Nat.min_eq_left (Nat.le_of_lt hj)
  have hBl := hA B (List.mem_of_getElem? hb)
  have e1 := C0 hb (by exact omB hL)
  have e2 : X0 (.list (Qi B)) = some (Qi B) := rfl
  have e3 := G5 (L.take j) B (by exact omB hBl)
  have e4 := Jg K B (by exact omB hBl)
  rw [List.length_cons, Wb]
  cases hk : Ua B (L.take j) with
  | some a =>
   obtain ⟨e5, e6⟩ := HN hk
   refine ⟨[some (.sh (.list (ldD L))), some (.ow true (.dict (L.take j).flatten (Y7 0 (L.take j)))), some (.sh (.int j)), v3, some (.ow true (.list (iL (C5 (L.take j) B))))], ?_⟩
   rw [Dl hk, htl]
   show _ = Res.ok (Fl.ret (T.sh (.tup [.int (a : Nat), .int (j : Nat)]))) _
   repeat' (first|(with_reducible first|assumption|exact QO|exact Zl|exact Zb|exact Uw|exact QH|exact Qt|apply Qp|exact Zz|apply X8|apply ZM|exact I6|exact XX|apply Zj|exact Xk|exact QX|exact QY|exact Qz|apply Qn|apply QB|apply ZH|apply Zn|apply QT|apply Xf|apply Qu|apply QK|apply QC|apply QV|apply ZN|apply XJ|apply QG|apply XM|apply Qq|apply Q2|apply QS|apply Q7|apply Q9|apply Md|apply Mg|apply Mi|apply Mj|apply Ml|apply Mm|apply Mo|apply Mp|apply Mq|apply Mr|apply Mz|apply MA|apply MJ|apply MR|apply MV|apply MW|apply MM|exact MN|apply MP|apply MQ|apply QZ|apply Xo|apply MZ|exact M0)|exact Q6 rfl|exact (rfl : Qg _ = true)|exact QN rfl|exact (rfl : (_ : Option _) = some _)|decide)
  | none =>
   rw [Gn hk] at e3
   have e3 : Yl (QF 1) (BN false (eOp 1) 2) (WQ 2 (eOp 1)) [none, none, some (.ow false (.dict (L.take j).flatten (Y7 0 (L.take j))))] (Qi B) [] = some [] := e3
   have e5 : neI (.list []) (.list []) = some (.sh (.bool false)) := by
    have := ON (Kc [] [])
    rw [UX.mpr rfl] at this
    exact this
   cases hs : Yt B with
   | some y =>
    rw [hs] at e4
    have e4 : Zm K [.list (Qi B)] = .ok (.sh (Zh y)) := e4
    have e6 : YX (Zh y) .none = some (.sh (.bool true)) := rfl
    have hdu : ∃ z, Wv B true 0 B = some z := by
     cases hz : Wv B true 0 B with
     | some z => exact ⟨z, rfl⟩
     | none =>
      rw [(WS B).mpr ((Wc B B 0 rfl).mp hz)] at hs
      cases hs
    obtain ⟨z, hz⟩ := hdu
    refine ⟨[some (.sh (.list (ldD L))), some (.ow true (.dict (L.take j).flatten (Y7 0 (L.take j)))), some (.sh (.int j)), v3, some (.ow true (.list []))], ?_⟩
    rw [BH hk hz, htl]
    show _ = Res.ok (Fl.ret (T.sh (.tup [.int (j : Nat), .int (j : Nat)]))) _
    repeat' (first|(with_reducible first|assumption|exact QO|exact Zl|exact Zb|exact Uw|exact QH|exact Qt|apply Qp|exact Zz|apply X8|apply ZM|exact I6|exact XX|apply Zj|exact Xk|exact QX|exact QY|exact Qz|apply Qn|apply QB|apply ZH|apply Zn|apply QT|apply Xf|apply Qu|apply QK|apply QC|apply QV|apply ZN|apply XJ|apply QG|apply XM|apply Qq|apply Q2|apply QS|apply Q7|apply Q9|apply Md|apply Mg|apply Mi|apply Mj|apply Ml|apply Mm|apply Mo|apply Mp|apply Mq|apply Mr|apply Mz|apply MA|apply MJ|apply MR|apply MV|apply MW|apply MM|exact MN|apply MP|apply MQ|apply QZ|apply Xo|apply MZ|exact M0)|exact Q6 rfl|exact (rfl : Qg _ = true)|exact QN rfl|exact (rfl : (_ : Option _) = some _)|decide)
   | none =>
    rw [hs] at e4
    have e4 : Zm K [.list (Qi B)] = .ok (.sh .none) := e4
    have e6 : YX .none .none = some (.sh (.bool false)) := rfl
    have hnd := (WS B).mp hs
    have hfl : (L.take j).flatten.length ≤ 10000 := by
     have : ∀ l : List (List (List Int)), (∀ A ∈ l, A.length ≤ 100) → l.flatten.length ≤ l.length * 100 := by
      intro l
      induction l with
      | nil => intro _; exact Nat.zero_le _
      | cons A l ih =>
       intro h
       show (A ++ l.flatten).length ≤ _
       rw [List.length_append, List.length_cons]
       have h1 := h A (.head _)
       have h2 := ih fun x hx => h x (.tail _ hx)
       lia
     have := this (L.take j) fun A ha => hA A (List.mem_of_mem_take ha)
     lia
    obtain ⟨v3', h3⟩ := HQ K (x0 := .list (ldD L)) (b := j) (F := (L.take j).flatten) (V := Y7 0 (L.take j)) (v4 := some (.ow true (.list []))) (OA.mp hk) hnd (by exact Nat.le_trans (Nat.add_le_add hfl hBl) (by decide)) B [] v3 rfl
    rw [List.append_nil, show Y7 0 (L.take j) ++ List.replicate ([] : List (List Int)).length (D.int (j : Nat)) = Y7 0 (L.take j) from List.append_nil _] at h3
    obtain ⟨ρ₂, h₂⟩ := ih (j + 1) (some (.sh (.int j))) v3' (some (.ow true (.list []))) hr
    have ht1 : L.take (j + 1) = L.take j ++ [B] := by rw [List.take_add_one, hb]; rfl
    rw [ht1, Fe, htl, Nat.zero_add, show (L.take j ++ [B]).flatten = (L.take j).flatten ++ B by rw [List.flatten_append]; exact congrArg _ (List.append_nil B)] at h₂
    refine ⟨ρ₂, ?_⟩
    rw [EI hk ((Wc B B 0 rfl).mpr hnd)]
    generalize tw (fmI (L.take j ++ [B]) r) ρ₂ = X at h₂ ⊢
    repeat' (first|(with_reducible first|assumption|exact QO|exact Zl|exact Zb|exact Uw|exact QH|exact Qt|apply Qp|exact Zz|apply X8|apply ZM|exact I6|exact XX|apply Zj|exact Xk|exact QX|exact QY|exact Qz|apply Qn|apply QB|apply ZH|apply Zn|apply QT|apply Xf|apply Qu|apply QK|apply QC|apply QV|apply ZN|apply XJ|apply QG|apply XM|apply Qq|apply Q2|apply QS|apply Q7|apply Q9|apply Md|apply Mg|apply Mi|apply Mj|apply Ml|apply Mm|apply Mo|apply Mp|apply Mq|apply Mr|apply Mz|apply MA|apply MJ|apply MR|apply MV|apply MW|apply MM|exact MN|apply MP|apply MQ|apply QZ|apply Xo|apply MZ|exact M0)|exact Q6 rfl|exact (rfl : Qg _ = true)|exact QN rfl|exact (rfl : (_ : Option _) = some _)|decide)
theorem U7 (K : Frag) {L : List (List (List Int))} (hL : L.length ≤ 100) (hA : ∀ A ∈ L, A.length ≤ 100) : Yq K [.list (ldD L)] = .ok (.sh (UZ (fmI [] L))) := by
 have e4 := XA (ds := ldD L) (by rw [Om]; exact omB hL)
 rw [Om] at e4
 have e5 : XN [.int (L.length : Int)] = some (.sh (.range 0 L.length 1)) := rfl
 have e6 := Je (m := L.length) (by exact omB hL)
 obtain ⟨ρ, h2⟩ := Ij K hL hA L 0 none none none rfl
 have h2 : Xs (QF 2) _ (nL (List.range' 0 L.length)) [some (.sh (.list (ldD L))), some (.ow true (.dict [] [])), none, none, none] = tw (fmI [] L) ρ := h2
 unfold Yq UM
 cases ht : fmI [] L with
 | some y =>
  rw [ht] at h2
  have h2 : Xs (QF 2) _ (nL (List.range' 0 L.length)) [some (.sh (.list (ldD L))), some (.ow true (.dict [] [])), none, none, none] = .ok (.ret (.sh (Zh y))) ρ := h2
  show _ = FOut.ok (.sh (Zh y))
  refine' QU [some (.sh (.list (ldD L))), none, none, none, none] rfl rfl ?_ Q0
  repeat' (first|(with_reducible first|assumption|exact QO|exact Wl|exact QH|exact Qt|apply Qp|exact QL|exact QX|apply Qn|apply QB|apply Qu|apply QK|apply QG|apply Qq|apply QS|apply Q9|apply W9|apply Md|apply Mi|apply Ml|apply Mm|apply MJ|apply MR|apply MW|apply MM|exact MN)|exact (rfl : Qg _ = true)|exact (rfl : (_ : Option _) = some _)|decide)
 | none =>
  rw [ht] at h2
  have h2 : Xs (QF 2) _ (nL (List.range' 0 L.length)) [some (.sh (.list (ldD L))), some (.ow true (.dict [] [])), none, none, none] = .ok .next ρ := h2
  show _ = FOut.ok (.sh .none)
  refine' QU [some (.sh (.list (ldD L))), none, none, none, none] rfl rfl ?_ Q0
  repeat' (first|(with_reducible first|assumption|exact QO|exact Wl|exact QH|exact Qt|apply Qp|exact QL|exact QX|apply Qn|apply QB|apply Qu|apply QK|apply QG|apply Qq|apply QS|apply Q9|apply W9|apply Md|apply Mi|apply Ml|apply Mm|apply MJ|apply MR|apply MW|apply MM|exact MN)|exact (rfl : Qg _ = true)|exact (rfl : (_ : Option _) = some _)|decide)
end Mine
end

section
set_option Elab.async false
set_option maxRecDepth 100000
set_option maxHeartbeats 4000000
set_option linter.unusedSimpArgs false
set_option linter.unusedVariables false
namespace Mine
open PySem PySem.W
theorem BF (K : Frag) {n : Nat} {chs ws : List (List Nat)} {dt : D} (hm : Mth n chs ws) : ∀ (t : List Nat) (h : List Int) (pre : List (List Int)) (L : List (List (List Int))) (v6 v7 : Option T), Row n h → (∀ c ∈ t, c < ws.length) → pre.length + t.length ≤ 200 → L.length + t.length ≤ 200 → ∃ v6' v7',
  Xs (QF 6) (Qo (Qx 7 (QA (Yb K) (Qb (Qc (Qr Xn (eOp 4) (Qc (Jq Jl (Qc (Qd (.int 1))))))) (Qb (eOp 1) Qj)))) (Qo (XF (Qc (Za 5 (Xe 7)))) (Qo (XF (Qc (Za 4 (QA (Yx K) (Qb (Qc (Qr Xn (eOp 7) (Qc (Jq Jl (Qc (Qd (.int 1))))))) (Qb (Qc (Qr Xn (eOp 2) (eOp 6))) Qj)))))) Qy))) (nD t) [some (.sh (.int n)), some (.sh (.list (chD chs))), some (.sh (.list (chD ws))), some (.sh dt), some (.ow true (.list (Qi (pre ++ [h])))), some (.ow true (.list (ldD L))), v6, v7] = .ok .next [some (.sh (.int n)), some (.sh (.list (chD chs))), some (.sh (.list (chD ws))), some (.sh dt), some (.ow true (.list (Qi (pre ++ (hds chs ws h t ++ [YG chs ws h t]))))), some (.ow true (.list (ldD (L ++ ldL chs (hds chs ws h t))))), v6', v7'] := by
 intro t
 induction t with
 | nil => intro h pre L v6 v7 _ _ _ _; exact ⟨v6, v7, by rw [show ldL chs (hds chs ws h []) = [] from rfl, List.append_nil]; rfl⟩
 | cons c t ih =>
  intro h pre L v6 v7 r hc hp hp2
  rw [List.length_cons] at hp hp2
  have hcc := hc c (.head _)
  have e1 := Kn K r.len hm.c
  have e2 := UY (l := pre) (a := h) (by exact omP hp)
  have e3 : Jl (.int 1) = some (.sh (.int (-1))) := rfl
  obtain ⟨pr, p1, p2⟩ := DM chs h
  have e4 : Xn (.list (Qi (X2 h chs))) (.int (-1)) = some (.sh (.tup (iL (Fp h chs)))) := by
   rw [p1]
   exact UY (by have := hm.c.len; exact Nat.le_trans (Nat.le_of_eq p2) (Nat.le_trans this (by decide)))
  have e5 := G9 (Dt hcc) hm.l
  have e6 := Ku K (Bs chs hm.c.all r).len hm.c.h12 (hm.w _ (List.mem_of_getElem? (Dt hcc))).ok
  have e6 : Yx K [.tup (iL (Fp h chs)), .tup (nD (ws.getD c []))] = .ok (.sh (.tup (iL (aft h chs (ws.getD c []))))) := e6
  have hlen : (Qi (pre ++ [h])).length ≤ 1000000 := by rw [QJ, List.length_append]; simp; exact omP hp
  have hlen2 : (ldD L).length ≤ 1000000 := by rw [Om]; exact omP hp2
  obtain ⟨v6', v7', hh⟩ := ih (aft h chs (ws.getD c [])) (pre ++ [h]) (L ++ [X2 h chs]) (some (.sh (.int c))) (some (.sh (.list (Qi (X2 h chs))))) (CM hm r hcc) (fun x hx => hc x (.tail _ hx)) (by rw [List.length_append]; simp; exact omS hp) (by rw [List.length_append]; simp; exact omS hp2)
  refine ⟨v6', v7', ?_⟩
  rw [show pre ++ (hds chs ws h (c :: t) ++ [YG chs ws h (c :: t)]) = pre ++ [h] ++ (hds chs ws (aft h chs (ws.getD c [])) t ++ [YG chs ws (aft h chs (ws.getD c [])) t]) by rw [List.append_assoc]; rfl, show L ++ ldL chs (hds chs ws h (c :: t)) = L ++ [X2 h chs] ++ ldL chs (hds chs ws (aft h chs (ws.getD c [])) t) by rw [List.append_assoc]; rfl]
  rw [← Jp (pre ++ [h]), show ldD (L ++ [X2 h chs]) = ldD L ++ [.list (Qi (X2 h chs))] from List.map_append] at hh
  show Xs _ _ (D.int (c : Nat) :: nD t) _ = _
  repeat' (first|(with_reducible first|assumption|exact QO|exact Uw|exact Kj|exact KI|exact Vt|exact QH|exact Qt|apply Qp|apply Yz|exact Xk|exact QX|exact Qz|apply Qn|apply QB|apply ZH|apply Xf|apply Qu|apply QC|apply Z1|apply Zq|apply Qq|apply Xh|apply Q7|apply Md|apply Mf|apply Mg|apply Mj|apply Ml|apply Mm|apply MT|apply MV|apply MM|apply QZ|apply Xo|apply MZ)|exact Q6 rfl|exact (rfl : Qg _ = true)|apply JT rfl|exact (rfl : (_ : Option _) = some _)|decide)
theorem Bu (K : Frag) {n : Nat} {chs ws : List (List Nat)} (hm : Mth n chs ws) {t : List Nat} (hc : ∀ c ∈ t, c < ws.length) (ht : t.length ≤ 40) : JK K [.int n, .list (chD chs), .list (chD ws), .list (nD t)] = .ok (.sh (.tup [.list (Qi (hds chs ws (rng n) t ++ [YG chs ws (rng n) t])), .list (ldD (ldL chs (hds chs ws (rng n) t)))])) := by
 have h12 := hm.c.h12
 have e1 : XN [.int (n : Int)] = some (.sh (.range 0 n 1)) := rfl
 have e2 := O0 n (by exact omB h12)
 have e4 : X0 (.list (nD t)) = some (nD t) := rfl
 obtain ⟨v6, v7, h⟩ := BF K (dt := .list (nD t)) hm t (rng n) [] [] none none (W6 hm.c.h3 hm.c.h12) hc (by simp; exact omB ht) (by simp; exact omB ht)
 have h : Xs (QF 6) _ (nD t) [some (.sh (.int n)), some (.sh (.list (chD chs))), some (.sh (.list (chD ws))), some (.sh (.list (nD t))), some (.ow true (.list [.tup (iL (rng n))])), some (.ow true (.list [])), none, none] = .ok .next [some (.sh (.int n)), some (.sh (.list (chD chs))), some (.sh (.list (chD ws))), some (.sh (.list (nD t))), some (.ow true (.list (Qi (hds chs ws (rng n) t ++ [YG chs ws (rng n) t])))), some (.ow true (.list (ldD (ldL chs (hds chs ws (rng n) t))))), v6, v7] := h
 unfold JK WN
 refine' QU [some (.sh (.int n)), some (.sh (.list (chD chs))), some (.sh (.list (chD ws))), some (.sh (.list (nD t))), none, none, none, none] rfl rfl ?_ Q0
 repeat' (first|(with_reducible first|assumption|exact QO|exact Uw|exact Kj|exact QH|exact Qt|apply Qp|exact XX|apply Zj|exact QX|exact QY|apply Qn|apply QB|apply Qu|apply QK|apply QV|apply ZN|apply XJ|apply QG|apply Qq|apply QS|apply Q7|apply Q9|apply Md|apply Mi|apply Ml|apply Mm|apply Mo|apply Mp|apply Mq|apply Mr|apply MJ|apply MR|apply MV|apply MW|apply MM|exact MN)|exact (rfl : Qg _ = true)|exact QN rfl|apply JT rfl|exact (rfl : (_ : Option _) = some _)|decide)
theorem Ex (K : Frag) {m s st : Nat} {ns : List Int} (hl : ns.length ≤ 63) (hs : 0 < s) (hm : m ≤ 40) : ∃ t : List Nat, t.length = m ∧ (∀ c ∈ t, c < s) ∧ Yl (QF 1) Ux (Qr XB (Qc (Qr ZC (Qc (QA (Xq K) (Qb (Qc (QA (Xb K) (Qb (eOp 2) (Qb (Qc (Qr Xg (Qc (Qr Xg (eOp 4) (Qc (Qd (.int 1))))) (Qc (Qr XB (eOp 1) (Qc (Qd (.int 4))))))) Qj)))) (Qb (Qc (Qr ZC (eOp 1) (Qc (Qd (.int 4))))) Qj)))) (Qc (Qd (.int 9))))) (eOp 3)) [none, none, some (.sh (.list (iL ns))), some (.sh (.int s)), some (.sh (.int st))] (nL (List.range' 0 m)) [] = some (nD t) := by
 refine ⟨(List.range' 0 m).map fun j => (((mix (ns.getD (st + 1 + j % 4) 0) ((j / 4 : Nat) : Int)).fdiv 9).fmod s).toNat, by simp, fun c hc => ?_, ?_⟩
 ·obtain ⟨j, _, rfl⟩ := List.mem_map.mp hc
  obtain ⟨k, hk1, hk2⟩ := XV ((mix (ns.getD (st + 1 + j % 4) 0) ((j / 4 : Nat) : Int)).fdiv 9) hs
  rw [hk1]; exact hk2
 ·have := Y1 (b := QF 1) (f := (Qr XB (Qc (Qr ZC (Qc (QA (Xq K) (Qb (Qc (QA (Xb K) (Qb (eOp 2) (Qb (Qc (Qr Xg (Qc (Qr Xg (eOp 4) (Qc (Qd (.int 1))))) (Qc (Qr XB (eOp 1) (Qc (Qd (.int 4))))))) Qj)))) (Qb (Qc (Qr ZC (eOp 1) (Qc (Qd (.int 4))))) Qj)))) (Qc (Qd (.int 9))))) (eOp 3))) (ρ₀ := [none, none, some (.sh (.list (iL ns))), some (.sh (.int s)), some (.sh (.int st))]) (g := fun d => match d with | .int k => .int ((((mix (ns.getD (st + 1 + k.toNat % 4) 0) ((k.toNat / 4 : Nat) : Int)).fdiv 9).fmod s).toNat : Nat) | _ => .none) (nL (List.range' 0 m)) (fun d hd => ?_) (by unfold nL; simp; exact omB hm)
  ·rw [this]
   unfold nL nD
   rw [List.map_map, List.map_map]
   rfl
  ·obtain ⟨j, hj, rfl⟩ := List.mem_map.mp hd
   have hj2 : j < m := by simpa using (List.mem_range'_1.mp hj).2
   have e0 : Xg (.int (st : Int)) (.int 1) = some (.sh (.int ((st + 1 : Nat) : Int))) := rfl
   have e1 := VB j 4 (by decide)
   have e1 : XB (.int (j : Int)) (.int 4) = some (.sh (.int ((j % 4 : Nat) : Int))) := e1
   have e2 : Xg (.int ((st + 1 : Nat) : Int)) (.int ((j % 4 : Nat) : Int)) = some (.sh (.int ((st + 1 + j % 4 : Nat) : Int))) := rfl
   have e3 := X4 K ns (st + 1 + j % 4) hl
   have e4 := Ou j 4 (by decide) (by decide)
   have e4 : ZC (.int (j : Int)) (.int 4) = some (.sh (.int ((j / 4 : Nat) : Int))) := e4
   have e5 := Zv K (ns.getD (st + 1 + j % 4) 0) ((j / 4 : Nat) : Int) (Y8 (by lia))
   obtain ⟨k, hk1, hk2⟩ := XV ((mix (ns.getD (st + 1 + j % 4) 0) ((j / 4 : Nat) : Int)).fdiv 9) hs
   have e6 : XB (.int ((mix (ns.getD (st + 1 + j % 4) 0) ((j / 4 : Nat) : Int)).fdiv 9)) (.int (s : Int)) = some (.sh (.int k)) := by rw [QW (by exact Int.ofNat_ne_zero.mpr (Nat.ne_of_gt hs)), hk1]
   refine ⟨[none, some (.sh (.int j)), some (.sh (.list (iL ns))), some (.sh (.int s)), some (.sh (.int st))], .sh (.int k), [none, some (.sh (.int j)), some (.sh (.list (iL ns))), some (.sh (.int s)), some (.sh (.int st))], rfl, ?_, ?_⟩
   ·repeat' (first|(with_reducible first|assumption|exact QO|exact X3|exact QH|exact Qt|apply Qp|exact Xk|exact QX|apply QE|apply QB|apply XD|apply XG|apply Xf|apply Qu|apply QC|apply QW|apply XW|apply Md|apply Mh|apply Mg|apply Mj|apply Ml|apply Mm)|exact Q6 rfl|exact (rfl : Qg _ = true)|exact (rfl : (_ : Option _) = some _)|decide)
   ·show D.int k = D.int ((((mix (ns.getD (st + 1 + j % 4) 0) ((j / 4 : Nat) : Int)).fdiv 9).fmod s).toNat : Nat)
    rw [hk1]; rfl
theorem VJ (K : Frag) {ns : List Int} (hl : ns.length ≤ 63) {z m : Nat} (hz : 1 ≤ z) (hz2 : z ≤ 31) (h1 : 1 ≤ m) (h4 : m ≤ 4) : ∃ t : List Nat, JH K [.list (iL ns), .int 9, .int z, .int m] = .ok (.ow true (.list (nD t))) ∧ (∀ c ∈ t, c < m) ∧ t.length ≤ 8 ∧ t.length * z ≤ 48 := by
 have c9 : Xb K [.list (iL ns), .int 9] = .ok (.sh (.int (ns.getD 9 0))) := X4 K ns 9 hl
 generalize ns.getD 9 0 = c at c9
 have d1 : ZC (.int 48) (.int (z : Int)) = some (.sh (.int ((48 / z : Nat) : Int))) := Ou 48 z (by exact Nat.ne_of_gt hz) (by exact omB hz2)
 have hq : 48 / z * z ≤ 48 := Nat.div_mul_le_self 48 z
 obtain ⟨q, hq8, hqz, d2⟩ : ∃ q : Nat, q ≤ 8 ∧ q * z ≤ 48 ∧ Ga [.int 8, .int ((48 / z : Nat) : Int)] = some (.sh (.int q)) := by
  by_cases hlt : 48 / z < 8
  ·exact ⟨48 / z, by exact omL hlt, hq, by show some (T.sh (.int (if ((48 / z : Nat) : Int) < 8 then ((48 / z : Nat) : Int) else 8))) = _; rw [if_pos (by exact Int.ofNat_lt.mpr hlt)]⟩
  ·exact ⟨8, by exact Nat.le_refl _, Nat.le_trans (Nat.mul_le_mul_right z (by exact Nat.le_of_not_lt hlt)) hq, by show some (T.sh (.int (if ((48 / z : Nat) : Int) < 8 then ((48 / z : Nat) : Int) else 8))) = _; rw [if_neg (by (exact_mod_cast hlt))]; rfl⟩
 have d3 : Xg (.int 1) (.int (q : Int)) = some (.sh (.int ((1 + q : Nat) : Int))) := rfl
 obtain ⟨k, hk1, hk2⟩ := XV (c.fdiv 3) (n := 1 + q) (by exact Nat.le_add_right _ _)
 have d4 : XB (.int (c.fdiv 3)) (.int ((1 + q : Nat) : Int)) = some (.sh (.int k)) := by rw [QW (by lia), hk1]
 have hkz : k * z ≤ 48 := Nat.le_trans (Nat.mul_le_mul_right z (by (have := hk2; simp +arith at this ⊢; exact this))) hqz
 obtain ⟨j, hj1, hj2⟩ := XV (c.fdiv 30) (n := m) (by assumption)
 have d5 : XB (.int (c.fdiv 30)) (.int (m : Int)) = some (.sh (.int j)) := by rw [QW (by exact Int.ofNat_ne_zero.mpr (Nat.ne_of_gt h1)), hj1]
 have d6 : WL (.list [.int (j : Int)]) (.int (k : Int)) = some (.ow true (.list (nD (List.replicate k j)))) := by
  rw [EV (by lia), Int.toNat_natCast]; unfold nD; rw [List.map_replicate]
 obtain ⟨i, hi1, hi2⟩ := XV c (n := 3) (by decide)
 have d7 : XB (.int c) (.int 3) = some (.sh (.int i)) := by rw [QW (by decide)]; rw [show c.fmod 3 = i from hi1]
 have d8 : ZC (.int (m : Int)) (.int 2) = some (.sh (.int ((m / 2 : Nat) : Int))) := Ou m 2 (by decide) (by decide)
 have d9 : Xg (.int 1) (.int ((m / 2 : Nat) : Int)) = some (.sh (.int ((1 + m / 2 : Nat) : Int))) := rfl
 have d10 : OE (.int (i : Int)) (.int 1) = some (.sh (.int ((i : Int) - 1))) := rfl
 have d11 : XN [.int (k : Int)] = some (.sh (.range 0 k 1)) := rfl
 have d12 := Je (m := k) (by lia)
 have hcnt : k ≤ 8 := by lia
 unfold JH WM
 by_cases h0 : i = 0
 ·subst h0
  refine ⟨List.replicate k j, ?_, fun c hc => by rw [(List.mem_replicate.mp hc).2]; exact hj2, by rw [List.length_replicate]; exact hcnt, by rw [List.length_replicate]; exact hkz⟩
  have e1 : eqI (.int ((0 : Nat) : Int)) (.int 0) = some (.sh (.bool true)) := VI 0
  refine' QU [some (.sh (.list (iL ns))), some (.sh (.int 9)), some (.sh (.int z)), some (.sh (.int m)), none, none, none] rfl rfl ?_ Q0
  repeat' (first|(with_reducible first|assumption|exact QO|exact Zl|exact X3|exact Uw|exact Kj|exact KI|exact QH|exact Qt|apply Qp|exact Zz|apply X8|apply ZM|exact K7|exact XX|apply Zj|exact Xk|exact QX|exact QY|exact Qz|apply JB|apply Qn|apply QE|apply QB|apply Uf|apply XD|apply XG|apply QT|apply Xf|apply Qu|apply QK|apply QC|apply QV|apply XJ|apply QG|apply XM|apply Qq|apply Q2|apply QS|apply Q7|apply QW|apply XW|apply Md|apply Mh|apply Mg|apply Mi|apply Mj|apply Ml|apply Mm|apply Mo|apply Mp|apply Mr|apply Mz|apply MA|apply MJ|apply MR|apply MV|apply MM|exact MN|apply MP|apply MQ)|exact Q6 rfl|exact (rfl : Qg _ = true)|exact QN rfl|exact (rfl : (_ : Option _) = some _)|decide)
 ·have e1 : eqI (.int (i : Int)) (.int 0) = some (.sh (.bool false)) := VM (by exact fun e => h0 (Int.ofNat.inj e))
  obtain ⟨s, hs0, hsm, d13⟩ : ∃ s : Nat, 0 < s ∧ s ≤ m ∧ Xn (.list [.int (m : Int), .int ((1 + m / 2 : Nat) : Int)]) (.int ((i : Int) - 1)) = some (.sh (.int s)) := by
   by_cases hi : i = 1
   ·subst hi
    exact ⟨m, by assumption, by exact Nat.le_refl _, rfl⟩
   ·have : i = 2 := by lia
    subst this
    exact ⟨1 + m / 2, by omega, by omega, rfl⟩
  obtain ⟨t, t1, t2, t3⟩ := Ex K (st := 9) hl hs0 (by omega : k ≤ 40)
  have t3 : Yl (QF 1) Ux (Qr XB (Qc (Qr ZC (Qc (QA (Xq K) (Qb (Qc (QA (Xb K) (Qb (eOp 2) (Qb (Qc (Qr Xg (Qc (Qr Xg (eOp 4) (Qc (Qd (.int 1))))) (Qc (Qr XB (eOp 1) (Qc (Qd (.int 4))))))) Qj)))) (Qb (Qc (Qr ZC (eOp 1) (Qc (Qd (.int 4))))) Qj)))) (Qc (Qd (.int 9))))) (eOp 3)) [none, none, some (.sh (.list (iL ns))), some (.sh (.int s)), some (.sh (.int 9))] (nL (List.range' 0 k)) [] = some (nD t) := t3
  refine ⟨t, ?_, fun c hc => Nat.lt_of_lt_of_le (t2 c hc) hsm, by omega, by rw [t1]; exact hkz⟩
  refine' QU [some (.sh (.list (iL ns))), some (.sh (.int 9)), some (.sh (.int z)), some (.sh (.int m)), none, none, none] rfl rfl ?_ Q0
  repeat' (first|(with_reducible first|assumption|exact QO|exact Zl|exact X3|exact Uw|exact Kj|exact KI|exact QH|exact Qt|apply Qp|exact Zz|apply X8|apply ZM|exact K7|exact XX|apply Zj|exact Xk|exact QX|exact QY|exact Qz|apply JB|apply Qn|apply QE|apply QB|apply Uf|apply XD|apply XG|apply QT|apply Xf|apply Qu|apply QK|apply QC|apply QV|apply XJ|apply QG|apply XM|apply Qq|apply Q2|apply QS|apply Q7|apply QW|apply XW|apply Md|apply Mh|apply Mg|apply Mi|apply Mj|apply Ml|apply Mm|apply Mo|apply Mp|apply Mr|apply Mz|apply MA|apply MJ|apply MR|apply MV|apply MM|exact MN|apply MP|apply MQ)|exact Q6 rfl|exact (rfl : Qg _ = true)|exact QN rfl|exact (rfl : (_ : Option _) = some _)|decide)
end Mine
end

section
set_option Elab.async false
set_option maxRecDepth 100000
set_option maxHeartbeats 4000000
set_option linter.unusedSimpArgs false
set_option linter.unusedVariables false
namespace Mine
open PySem PySem.W
theorem GD {hs : List (List Int)} (hl : hs.length ≤ 1000) : Yl (QF 1) Ux (Xe 1) [none, none] (Qi hs) [] = some (Qi hs) := by
 have := Y1 (b := QF 1) (f := Xe 1) (ρ₀ := [none, none]) (g := fun d => d) (Qi hs) (fun d hd => by
  obtain ⟨h, hh, rfl⟩ := List.mem_map.mp hd
  exact ⟨[none, some (.sh (.tup (iL h)))], .sh (.tup (iL h)), [none, some (.sh (.tup (iL h)))], rfl, rfl, rfl⟩) (by rw [QJ]; exact omB hl)
 rw [List.map_id'] at this
 exact this
theorem Fu {x0 x1 x2 x3 : D} {v6 v7 v8 v9 v10 : Option T} : ∀ (L : List (List (List Int))) (acc : List (List Int)) (v : Option T), acc.length + L.flatten.length ≤ 1000 → ∃ v',
  Xs (QF 5) (Qo (Qx 4 (Qr Xg (eOp 4) (eOp 5))) Qy) (ldD L) [some (.sh x0), some (.sh x1), some (.sh x2), some (.sh x3), some (.ow true (.list (Qi acc))), v, v6, v7, v8, v9, v10] = .ok .next [some (.sh x0), some (.sh x1), some (.sh x2), some (.sh x3), some (.ow true (.list (Qi (acc ++ L.flatten)))), v', v6, v7, v8, v9, v10] := by
 intro L
 induction L with
 | nil => intro acc v _; exact ⟨v, by rw [show ([] : List (List (List Int))).flatten = [] from rfl, List.append_nil]; rfl⟩
 | cons A L ih =>
  intro acc v hl
  rw [show (A :: L).flatten = A ++ L.flatten from rfl, List.length_append] at hl
  have e1 : Xg (.list (Qi acc)) (.list (Qi A)) = some (.ow true (.list (Qi (acc ++ A)))) := by
   rw [Wq (by rw [QJ, QJ]; lia)]
   unfold Qi; rw [List.map_append]
  obtain ⟨v', h⟩ := ih (acc ++ A) (some (.sh (.list (Qi A)))) (by rw [List.length_append]; (rw [Nat.add_assoc]; exact hl))
  refine ⟨v', ?_⟩
  rw [show acc ++ (A :: L).flatten = acc ++ A ++ L.flatten by rw [List.append_assoc]; rfl]
  show Xs _ _ (D.list (Qi A) :: ldD L) _ = _
  repeat' (first|(with_reducible first|assumption|exact Uw|exact Kj|exact Qz|apply ZH|apply Xf|apply Qq|apply Q7|apply Mg|apply MV|apply MM|apply QZ|apply Xo|apply MZ)|exact (rfl : Qg _ = true)|exact (rfl : (_ : Option _) = some _)|decide)
theorem GH {u0 u1 u2 u3 u4 u5 u6 v10 : Option T} (m j : Nat) (w : Int) : ∃ q : Nat, q < 3 ∧ (Qc (Qr Xn (Qc (ZA (Qw (Qr XB (eOp 9) (Qc (Qd (.int 3)))) (Qw (Qd (.int 0)) Xv)))) (Qc (Q8 GC (Qb (Qc (eBo .And (Qc (Qr eqI (eOp 7) (Qc (Qd (.int 60))))) (Qr gtI (Qc (Qr XB (eOp 8) (Qc (Qd (.int 20))))) (Qc (Qd (.int 0)))))) Qj))))) [u0, u1, u2, u3, u4, u5, u6, some (.sh (.int m)), some (.sh (.int j)), some (.sh (.int w)), v10] = .ok (.val (.int q)) [u0, u1, u2, u3, u4, u5, u6, some (.sh (.int m)), some (.sh (.int j)), some (.sh (.int w)), v10] := by
 obtain ⟨i, hi1, hi2⟩ := XV w (n := 3) (by decide)
 have e11 : XB (.int w) (.int 3) = some (.sh (.int i)) := by rw [QW (by decide)]; rw [show w.fmod 3 = i from hi1]
 have e12 : XB (.int (j : Int)) (.int 20) = some (.sh (.int ((j % 20 : Nat) : Int))) := VB j 20 (by decide)
 have k6 : Xn (.list [.int (i : Int), .int 0]) (.int 0) = some (.sh (.int i)) := rfl
 have k7 : GC [.bool false] = some (.sh (.int 0)) := rfl
 by_cases hm60 : m = 60
 ·subst hm60
  have k1 : eqI (.int ((60 : Nat) : Int)) (.int 60) = some (.sh (.bool true)) := VI 60
  by_cases h20 : 0 < j % 20
  ·have k2 := FL (a := ((j % 20 : Nat) : Int)) (b := 0) (Int.ofNat_lt.mpr h20)
   have k3 : GC [.bool true] = some (.sh (.int 1)) := rfl
   have k4 : Xn (.list [.int (i : Int), .int 0]) (.int 1) = some (.sh (.int ((0 : Nat) : Int))) := rfl
   refine ⟨0, by decide, ?_⟩
   repeat' (first|(with_reducible first|assumption|exact QO|exact Zl|exact X3|exact QH|exact Qt|apply Qp|exact XX|apply Zj|exact Xk|exact QL|exact QX|exact QY|apply QB|apply XD|apply XG|apply Qu|apply QK|apply QV|apply KW|apply XJ|apply QW|apply Md|apply Mh|apply Mg|apply Mi|apply Ml|apply Mm|apply Mo|apply Mp|apply Mr|apply MI|apply MG|exact MH)|exact (rfl : Qg _ = true)|exact (rfl : (_ : Option _) = some _)|decide)
  ·have k2 := VN (a := ((j % 20 : Nat) : Int)) (b := 0) (fun h => h20 (Int.ofNat_lt.mp h))
   refine ⟨i, hi2, ?_⟩
   repeat' (first|(with_reducible first|assumption|exact QO|exact Zl|exact X3|exact QH|exact Qt|apply Qp|exact XX|apply Zj|exact Xk|exact QL|exact QX|exact QY|apply QB|apply XD|apply XG|apply Qu|apply QK|apply QV|apply KW|apply XJ|apply QW|apply Md|apply Mh|apply Mg|apply Mi|apply Ml|apply Mm|apply Mo|apply Mp|apply Mr|apply MI|apply MG|exact MH)|exact (rfl : Qg _ = true)|exact (rfl : (_ : Option _) = some _)|decide)
 ·have k1 : eqI (.int (m : Int)) (.int 60) = some (.sh (.bool false)) := VM (fun h => hm60 (Int.ofNat.inj h))
  refine ⟨i, hi2, ?_⟩
  repeat' (first|(with_reducible first|assumption|exact QO|exact Zl|exact X3|exact QH|exact Qt|apply Qp|exact XX|apply Zj|exact Xk|exact QL|exact QX|exact QY|apply QB|apply XD|apply XG|apply Qu|apply QK|apply QV|apply KW|apply XJ|apply QW|apply Md|apply Mh|apply Mg|apply Mi|apply Ml|apply Mm|apply Mo|apply Mp|apply Mr|apply MI|apply MG|exact MH)|exact (rfl : Qg _ = true)|exact (rfl : (_ : Option _) = some _)|decide)
theorem BK (K : Frag) {n m : Nat} {ns : List Int} {x1 x2 : D} {v5 : Option T} {R : List (List Int)} (hl : ns.length ≤ 63) (h3 : 3 ≤ n) (h12 : n ≤ 12) (hm : m ≤ 60) (hR : ∀ x ∈ R, Row n x) (hR1 : 0 < R.length) (hR2 : R.length ≤ 1000) : ∀ (c j : Nat) (acc : List (List Int)) (v8 v9 v10 : Option T), j + c ≤ 60 → acc.length = j → (∀ x ∈ acc, Row n x) → ∃ fs v8' v9' v10', (∀ x ∈ fs, Row n x) ∧ fs.length = j + c ∧
  Xs (QF 8) (Qo (Qx 9 (QA (Xq K) (Qb (Qc (QA (Xb K) (Qb (eOp 0) (Qb (Qc (Qr Xg (Qc (Qd (.int 15))) (Qc (Qr XB (eOp 8) (Qc (Qd (.int 5))))))) Qj)))) (Qb (Qc (Qr Xg (Qc (Qd (.int 11))) (Qc (Qr ZC (eOp 8) (Qc (Qd (.int 5))))))) Qj)))) (Qo (Qx 10 (Qr Xn (eOp 4) (Qc (Qr XB (Qc (Qr ZC (eOp 9) (Qc (Qd (.int 3))))) (Qc (Q8 YD (Qb (eOp 4) Qj))))))) (Qo (XF (Qc (Za 6 (Qr Xn (Qc (ZA (Qw (QA (U1 K) (Qb (eOp 9) (Qb (eOp 3) Qj))) (Qw (Xe 10) (Qw (Xe 10) Xv))))) (Qc (Qr Xn (Qc (ZA (Qw (Qr XB (eOp 9) (Qc (Qd (.int 3)))) (Qw (Qd (.int 0)) Xv)))) (Qc (Q8 GC (Qb (Qc (eBo .And (Qc (Qr eqI (eOp 7) (Qc (Qd (.int 60))))) (Qr gtI (Qc (Qr XB (eOp 8) (Qc (Qd (.int 20))))) (Qc (Qd (.int 0)))))) Qj))))))))) Qy))) (nL (List.range' j c)) [some (.sh (.list (iL ns))), some (.sh x1), some (.sh x2), some (.sh (.int n)), some (.ow true (.list (Qi R))), v5, some (.ow true (.list (Qi acc))), some (.sh (.int m)), v8, v9, v10] = .ok .next [some (.sh (.list (iL ns))), some (.sh x1), some (.sh x2), some (.sh (.int n)), some (.ow true (.list (Qi R))), v5, some (.ow true (.list (Qi fs))), some (.sh (.int m)), v8', v9', v10'] := by
 intro c
 induction c with
 | zero => intro j acc v8 v9 v10 _ ha hr; exact ⟨acc, v8, v9, v10, hr, ha, rfl⟩
 | succ c ih =>
  intro j acc v8 v9 v10 hj ha hr
  rw [Wb]
  have e1 : XB (.int (j : Int)) (.int 5) = some (.sh (.int ((j % 5 : Nat) : Int))) := VB j 5 (by decide)
  have e2 : Xg (.int 15) (.int ((j % 5 : Nat) : Int)) = some (.sh (.int ((15 + j % 5 : Nat) : Int))) := rfl
  have e3 := X4 K ns (15 + j % 5) hl
  have e4 : ZC (.int (j : Int)) (.int 5) = some (.sh (.int ((j / 5 : Nat) : Int))) := Ou j 5 (by decide) (by decide)
  have e5 : Xg (.int 11) (.int ((j / 5 : Nat) : Int)) = some (.sh (.int ((11 + j / 5 : Nat) : Int))) := rfl
  have e6 := Zv K (ns.getD (15 + j % 5) 0) ((11 + j / 5 : Nat) : Int) (Y8 (by lia))
  generalize mix (ns.getD (15 + j % 5) 0) ((11 + j / 5 : Nat) : Int) = w at e6
  have e7 := XA (ds := Qi R) (by rw [QJ]; exact omB hR2)
  rw [QJ] at e7
  obtain ⟨p, hp1, hp2⟩ := XV (w.fdiv 3) hR1
  have e8 : XB (.int (w.fdiv 3)) (.int (R.length : Int)) = some (.sh (.int p)) := by rw [QW (by exact Int.ofNat_ne_zero.mpr (Nat.ne_of_gt hR1)), hp1]
  have e9 := HG (l := R) (i := p) (List.getElem?_eq_getElem hp2) hR2
  have rx := hR _ (List.getElem_mem hp2)
  generalize R[p] = o at e9 rx
  obtain ⟨a, e10, ra⟩ := Dx K w n h3 h12
  have hlen : (Qi acc).length ≤ 1000000 := by rw [QJ]; lia
  have pick : ∀ i : Nat, i < 3 → ∃ z, Row n z ∧ Xn (.list [.tup (iL a), .tup (iL o), .tup (iL o)]) (.int (i : Int)) = some (.sh (.tup (iL z))) := by
   intro i hi
   match i, hi with
   | 0, _ => exact ⟨a, ra, rfl⟩
   | 1, _ => exact ⟨o, rx, rfl⟩
   | 2, _ => exact ⟨o, rx, rfl⟩
  obtain ⟨q, hq, k4⟩ := GH (u0 := some (.sh (.list (iL ns)))) (u1 := some (.sh x1)) (u2 := some (.sh x2)) (u3 := some (.sh (.int n))) (u4 := some (.ow true (.list (Qi R)))) (u5 := v5) (u6 := some (.ow true (.list (Qi acc)))) (v10 := some (.sh (.tup (iL o)))) m j w
  obtain ⟨z, rz, k5⟩ := pick q hq
  obtain ⟨fs, v8', v9', v10', q1, q2, q3⟩ := ih (j + 1) (acc ++ [z]) (some (.sh (.int j))) (some (.sh (.int w))) (some (.sh (.tup (iL o)))) (by exact omS hj) (by rw [List.length_append, ha]; rfl) (fun x hx => by
   rcases List.mem_append.mp hx with hx | hx
   ·exact hr x hx
   ·rw [List.mem_singleton.mp hx]; exact rz)
  rw [← Jp] at q3
  refine ⟨fs, v8', v9', v10', q1, by (have := q2; simp +arith at this ⊢; exact this), ?_⟩
  repeat' (first|(with_reducible first|assumption|exact QO|exact Zl|exact X3|exact KI|exact De|exact LF|exact IR|exact QH|exact Qt|apply Qp|apply Yz|exact XX|apply Zj|exact QX|exact QY|exact Qz|apply Qn|apply QE|apply QB|apply Uf|apply XD|apply ZH|apply XG|apply Qu|apply QK|apply QC|apply QV|apply XJ|apply Zq|apply Qq|apply Xh|apply Q7|apply QW|apply XW|apply Md|apply Mh|apply Mg|apply Mi|apply Mj|apply Ml|apply Mm|apply Mo|apply Mp|apply Mr|apply MT|apply MV|apply MM|apply QZ|apply Xo|apply MZ)|exact Q6 rfl|exact (rfl : Qg _ = true)|exact QN rfl|exact (rfl : (_ : Option _) = some _)|decide)
theorem BY (K : Frag) {n : Nat} {ns : List Int} (hl : ns.length ≤ 63) (h3 : 3 ≤ n) (h12 : n ≤ 12) {hs : List (List Int)} {L : List (List (List Int))} (hh : ∀ x ∈ hs, Row n x) (hL : ∀ x ∈ L.flatten, Row n x) (h0 : 0 < hs.length) (hlen : hs.length + L.flatten.length ≤ 1000) : ∃ fs, Wp K [.list (iL ns), .list (Qi hs), .list (ldD L), .int n] = .ok (.ow true (.list (Qi fs))) ∧ (∀ x ∈ fs, Row n x) ∧ fs.length ≤ 60 := by
 have e1 := GD (hs := hs) (by exact omP hlen)
 have e2 : X0 (.list (Qi hs)) = some (Qi hs) := rfl
 have e3 : X0 (.list (ldD L)) = some (ldD L) := rfl
 have c14 : Xb K [.list (iL ns), .int 14] = .ok (.sh (.int (ns.getD 14 0))) := X4 K ns 14 hl
 generalize ns.getD 14 0 = c at c14
 obtain ⟨v5, s1⟩ := Fu (x0 := .list (iL ns)) (x1 := .list (Qi hs)) (x2 := .list (ldD L)) (x3 := .int n) (v6 := none) (v7 := none) (v8 := none) (v9 := none) (v10 := none) L hs none hlen
 obtain ⟨m0, hm1, hm2⟩ := XV c (n := 10) (by decide)
 have e4 : XB (.int c) (.int 10) = some (.sh (.int m0)) := by rw [QW (by decide)]; rw [show c.fmod 10 = m0 from hm1]
 have rr : ∀ x ∈ hs ++ L.flatten, Row n x := fun x hx => by
  rcases List.mem_append.mp hx with hx | hx
  ·exact hh x hx
  ·exact hL x hx
 have r1 : 0 < (hs ++ L.flatten).length := by rw [List.length_append]; exact Nat.lt_of_lt_of_le h0 (Nat.le_add_right _ _)
 have r2 : (hs ++ L.flatten).length ≤ 1000 := by rw [List.length_append]; omega
 unfold Wp KH
 by_cases h16 : (c.fdiv 10).fmod 16 = 1
 ·have e5 : eqI (.int ((c.fdiv 10).fmod 16)) (.int 1) = some (.sh (.bool true)) := by rw [h16]; exact VI 1
  obtain ⟨fs, v8, v9, v10, q1, q2, q3⟩ := BK K (m := 60) (x1 := .list (Qi hs)) (x2 := .list (ldD L)) (v5 := v5) hl h3 h12 (by decide) rr r1 r2 60 0 [] none none none (by decide) rfl (fun x hx => by cases hx)
  have q3 : Xs (QF 8) _ (nL (List.range' 0 60)) [some (.sh (.list (iL ns))), some (.sh (.list (Qi hs))), some (.sh (.list (ldD L))), some (.sh (.int n)), some (.ow true (.list (Qi (hs ++ L.flatten)))), v5, some (.ow true (.list [])), some (.sh (.int 60)), none, none, none] = .ok .next [some (.sh (.list (iL ns))), some (.sh (.list (Qi hs))), some (.sh (.list (ldD L))), some (.sh (.int n)), some (.ow true (.list (Qi (hs ++ L.flatten)))), v5, some (.ow true (.list (Qi fs))), some (.sh (.int 60)), v8, v9, v10] := q3
  have e6 : XN [.int 60] = some (.sh (.range 0 60 1)) := rfl
  have e7 : X0 (.range 0 60 1) = some (nL (List.range' 0 60)) := Je (m := 60) (by decide)
  refine ⟨fs, ?_, q1, by exact Nat.le_of_eq q2⟩
  refine' QU [some (.sh (.list (iL ns))), some (.sh (.list (Qi hs))), some (.sh (.list (ldD L))), some (.sh (.int n)), none, none, none, none, none, none, none] rfl rfl ?_ Q0
  repeat' (first|(with_reducible first|assumption|exact QO|exact Uw|exact KI|exact Vt|exact QH|exact Qt|apply Qp|exact Zz|apply X8|exact XX|exact Xk|exact QL|exact QY|exact Qz|exact Q5|apply Qn|apply QE|apply XG|apply QT|apply Qu|apply QK|apply QC|apply XJ|apply QG|apply XM|apply Qq|apply Q2|apply Q7|apply Q9|apply QW|apply XW|apply Md|apply Mh|apply Mg|apply Mi|apply Mj|apply Ml|apply Mr|apply Mz|apply MA|apply MJ|apply MV|apply MW|apply MM|exact MN|apply MP|apply MQ)|exact Q6 rfl|exact (rfl : Qg _ = true)|exact QN rfl|exact J6 rfl|exact (rfl : (_ : Option _) = some _)|decide)
 ·have e5 := VM h16
  obtain ⟨fs, v8, v9, v10, q1, q2, q3⟩ := BK K (m := m0) (x1 := .list (Qi hs)) (x2 := .list (ldD L)) (v5 := v5) hl h3 h12 (by exact omL hm2) rr r1 r2 m0 0 [] none none none (by omega) rfl (fun x hx => by cases hx)
  have q3 : Xs (QF 8) _ (nL (List.range' 0 m0)) [some (.sh (.list (iL ns))), some (.sh (.list (Qi hs))), some (.sh (.list (ldD L))), some (.sh (.int n)), some (.ow true (.list (Qi (hs ++ L.flatten)))), v5, some (.ow true (.list [])), some (.sh (.int m0)), none, none, none] = .ok .next [some (.sh (.list (iL ns))), some (.sh (.list (Qi hs))), some (.sh (.list (ldD L))), some (.sh (.int n)), some (.ow true (.list (Qi (hs ++ L.flatten)))), v5, some (.ow true (.list (Qi fs))), some (.sh (.int m0)), v8, v9, v10] := q3
  have e6 : XN [.int (m0 : Int)] = some (.sh (.range 0 m0 1)) := rfl
  have e7 := Je (m := m0) (by exact omL hm2)
  refine ⟨fs, ?_, q1, by omega⟩
  refine' QU [some (.sh (.list (iL ns))), some (.sh (.list (Qi hs))), some (.sh (.list (ldD L))), some (.sh (.int n)), none, none, none, none, none, none, none] rfl rfl ?_ Q0
  repeat' (first|(with_reducible first|assumption|exact QO|exact Uw|exact KI|exact Vt|exact QH|exact Qt|apply Qp|exact Zz|apply X8|exact XX|exact Xk|exact QL|exact QY|exact Qz|exact Q5|apply Qn|apply QE|apply XG|apply QT|apply Qu|apply QK|apply QC|apply XJ|apply QG|apply XM|apply Qq|apply Q2|apply Q7|apply Q9|apply QW|apply XW|apply Md|apply Mh|apply Mg|apply Mi|apply Mj|apply Ml|apply Mr|apply Mz|apply MA|apply MJ|apply MV|apply MW|apply MM|exact MN|apply MP|apply MQ)|exact Q6 rfl|exact (rfl : Qg _ = true)|exact QN rfl|exact J6 rfl|exact (rfl : (_ : Option _) = some _)|decide)
end Mine
end

section
set_option Elab.async false
set_option maxRecDepth 100000
set_option maxHeartbeats 4000000
set_option linter.unusedSimpArgs false
set_option linter.unusedVariables false
namespace Mine
open PySem PySem.W
theorem DO : ∀ l : List (List Int), PyData.eqvAll (l.map tp) (l.map tp) = true := by
 intro l
 induction l with
 | nil => rfl
 | cons a l ih =>
  show (PyData.eqv (tp a) (tp a) && PyData.eqvAll (l.map tp) (l.map tp)) = true
  rw [ih, CY, decide_eq_true (rfl : a = a)]; rfl
theorem Hi (l : List (List Int)) : neI (.list (Qi l)) (.list (Qi l)) = some (.sh (.bool false)) :=
 ON (b := true) (BM (Ds (Uh l)) (Ds (Uh l)) (UA l) (UA l) (DO l))
theorem Bc (K : Frag) {n : Nat} {chs : List (List Nat)} (hc : Chs n chs) {hs : List (List Int)} (hr : ∀ h ∈ hs, Row n h) (hl : hs.length ≤ 1000) : Yl (QF 1) Ux (QA (Yb K) (Qb (eOp 1) (Qb (eOp 2) Qj))) [none, none, some (.sh (.list (chD chs)))] (Qi hs) [] = some (ldD (ldL chs hs)) := by
 have := Y1 (b := QF 1) (f := (QA (Yb K) (Qb (eOp 1) (Qb (eOp 2) Qj)))) (ρ₀ := [none, none, some (.sh (.list (chD chs)))]) (g := fun d => match Z6 d with | some a => .list (Qi (X2 a chs)) | none => .none) (Qi hs) (fun d hd => ?_) (by rw [QJ]; exact omB hl)
 ·rw [this]
  unfold ldD ldL Qi
  rw [List.map_map, List.map_map]
  congr 2; funext a
  show (match Z6 (.tup (iL a)) with | some a => D.list (Qi (X2 a chs)) | none => .none) = _
  rw [ZZ]; rfl
 ·obtain ⟨h, hh, rfl⟩ := List.mem_map.mp hd
  have e1 := Kn K (hr h hh).len hc
  refine ⟨[none, some (.sh (.tup (iL h))), some (.sh (.list (chD chs)))], .ow true (.list (Qi (X2 h chs))), [none, some (.sh (.tup (iL h))), some (.sh (.list (chD chs)))], rfl, ?_, by show _ = (match Z6 (.tup (iL h)) with | some a => D.list (Qi (X2 a chs)) | none => .none); rw [ZZ]; rfl⟩
  repeat' (first|(with_reducible first|assumption|exact Qt|apply Qp|apply Qn|apply QE|apply QC|apply Mj|apply Ml)|exact Q6 rfl|exact (rfl : Qg _ = true)|exact (rfl : (_ : Option _) = some _)|decide)
noncomputable def alt : Nat → List (List Int) → List D
 | 0, _ => []
 | m + 1, fs => .list (Qi fs) :: alt m fs.reverse
theorem GJ (K : Frag) {n : Nat} {chs ws : List (List Nat)} (hc : Chs n chs) {x2 : D} : ∀ (m : Nat) (fs : List (List Int)) (v4 v5 : Option T), (∀ x ∈ fs, Row n x) → fs.length ≤ 60 → ∃ v3' v4' v5',
  Xs (QF 4) (Qo (Qx 5 (QA (Yq K) (Qb (Qc (Ys [none, none, some 1] (Xu (Xe 4)) (QF 1) Ux (QA (Yb K) (Qb (eOp 1) (Qb (eOp 2) Qj))))) Qj))) (Qo (sIf (eOr (Y6 (XU (Qc (QA (ZV K) (Qb (Qc (QA (Xy K) (Qb (eOp 0) (Qb (eOp 3) Qj)))) (Qb (eOp 5) Qj)))))) (eOr (Xl neI (eOp 3) (eOp 4)) Z3)) (Qo (XS (Qd (.bool false))) Qy) Qy) (Qo (XF (Qc (UV 3))) Qy))) (alt m fs) [some (.sh (mth n chs ws)), some (.sh (.list (chD chs))), some (.sh x2), some (.ow true (.list (Qi fs))), v4, v5] = .ok .next [some (.sh (mth n chs ws)), some (.sh (.list (chD chs))), some (.sh x2), v3', v4', v5'] := by
 intro m
 induction m with
 | zero => intro fs v4 v5 _ _; exact ⟨_, v4, v5, rfl⟩
 | succ m ih =>
  intro fs v4 v5 hr hl
  have e1 := Bc K hc hr (by exact omB hl)
  have hcl := hc.len
  have e2 := U7 K (L := ldL chs fs) (by rw [Ke]; exact omB hl) (fun A hA => Nat.le_trans (Du hc.len A hA) (by decide))
  have e3 := Ue K (ws := ws) hc hr hl
  have e4 := YL K (fmI [] (ldL chs fs))
  have lf := O1 (fmI [] (ldL chs fs))
  have e5 := Hi fs
  have e6 : X0 (.list (Qi fs)) = some (Qi fs) := rfl
  have hlen : (Qi fs).length ≤ 1000000 := by rw [QJ]; exact omB hl
  obtain ⟨v3', v4', v5', h⟩ := ih fs.reverse (some (.sh (.list (Qi fs)))) (some (.sh (UZ (fmI [] (ldL chs fs))))) (fun x hx => hr x (List.mem_reverse.mp hx)) (by rw [List.length_reverse]; exact hl)
  rw [show Qi fs.reverse = (Qi fs).reverse from List.map_reverse] at h
  refine ⟨v3', v4', v5', ?_⟩
  show Xs _ _ (D.list (Qi fs) :: alt m fs.reverse) _ = _
  generalize UZ (fmI [] (ldL chs fs)) = X at *
  generalize mth n chs ws = M at *
  repeat' (first|(with_reducible first|assumption|exact QO|exact Zl|exact Yw|exact Uw|exact Kj|exact QH|exact Qt|apply Qp|exact Zz|apply X8|apply ZM|exact K7|apply Yz|exact QX|exact Xi|exact Qz|apply Qn|apply QE|apply QB|apply Zn|apply Xf|apply Qu|apply QC|apply QP|apply Xp|apply XR|apply QG|apply XM|apply Qq|apply Q2|apply Xh|apply Q7|apply Ff|apply Md|apply Mj|apply Ml|apply Mm|apply Ms|apply Mz|apply MJ|apply MT|apply MV|exact Mt|apply My|apply MM|apply MQ|apply QZ|apply Xo|apply MZ)|exact Q6 rfl|apply Zp rfl QO|apply Zp rfl Zl|exact (rfl : Qg _ = true)|exact QN rfl|exact (rfl : (_ : Option _) = some _)|decide)
theorem We (K : Frag) {n : Nat} {chs ws : List (List Nat)} (hc : Chs n chs) {fs : List (List Int)} (hr : ∀ x ∈ fs, Row n x) (hl : fs.length ≤ 60) : ZY K [mth n chs ws, .list (chD chs), .list (Qi fs)] = .ok (.sh (.bool true)) := by
 have e1 := YW (ds := Qi fs) (by rw [QJ]; exact omB hl)
 have e2 : IN (.list (Qi fs)) = some (.ow true (.list (Qi fs.reverse))) := by
  rw [show Qi fs.reverse = (Qi fs).reverse from List.map_reverse]
  exact if_pos (by rw [QJ]; exact omB hl)
 obtain ⟨v3, v4, v5, h⟩ := GJ K (ws := ws) hc (x2 := .list (Qi fs)) 3 fs none none hr hl
 rw [show alt 3 fs = [.list (Qi fs), .list (Qi fs.reverse), .list (Qi fs.reverse.reverse)] from rfl, List.reverse_reverse] at h
 have e3 : X0 (.tup [.list (Qi fs), .list (Qi fs.reverse), .list (Qi fs)]) = some [.list (Qi fs), .list (Qi fs.reverse), .list (Qi fs)] := rfl
 unfold ZY YI
 generalize mth n chs ws = M at *
 refine' QU [some (.sh M), some (.sh (.list (chD chs))), some (.sh (.list (Qi fs))), none, none, none] rfl rfl ?_ Q0
 repeat' (first|(with_reducible first|assumption|exact QO|exact Zl|exact Yw|exact Qt|apply Qp|exact XX|apply Zj|exact QL|exact QY|apply Qn|apply Xf|apply QK|apply QV|apply Z1|apply ZN|apply QG|apply Qq|apply QS|apply Q7|apply Q9|apply Mf|apply Mi|apply Mo|apply Mp|apply Mq|apply MJ|apply MR|apply MV|apply MW|apply MM|exact MN)|exact (rfl : Qg _ = true)|exact QN rfl|exact (rfl : (_ : Option _) = some _)|decide)
theorem Lj (t : List Nat) : neI (.list (nD t)) (.list (nD t)) = some (.sh (.bool false)) := by
 rw [FY]
 have := ON (Kc (t.map fun (c : Nat) => (c : Int)) (t.map fun (c : Nat) => (c : Int)))
 rw [UX.mpr rfl] at this
 exact this
theorem Ll (t : List Nat) : eqI (.list (nD t)) (.list (nD t)) = some (.sh (.bool true)) := by
 rw [FY, Oq, UX.mpr rfl]
theorem HU (chs ws : List (List Nat)) (c : Nat) (t : List Nat) : ∀ h, hds chs ws h (t ++ [c]) = hds chs ws h t ++ [YG chs ws h t] := by
 induction t with
 | nil => intro h; rfl
 | cons d t ih => intro h; exact congrArg (h :: ·) (ih _)
theorem DW {n : Nat} {chs ws : List (List Nat)} {t : List Nat} {c : Nat} : Xz n chs ws (t ++ [c]) = Xz n chs ws t ++ X2 (YG chs ws (rng n) t) chs := by
 unfold Xz ldL
 rw [HU, List.map_append, List.flatten_append]
 exact congrArg _ (List.append_nil _)
theorem YZ {n : Nat} {chs ws : List (List Nat)} {t : List Nat} : (Xz n chs ws t).length = t.length * (chs.length + 1) := by unfold Xz; rw [Bl, VA]
theorem Ww (K : Frag) {n : Nat} {chs ws : List (List Nat)} (hm : Mth n chs ws) {t : List Nat} (hc : ∀ c ∈ t, c < ws.length) (ht : t.length ≤ 40) (hb : t.length * (chs.length + 1) ≤ 100) : Yd K [mth n chs ws, .list (nD t), .list (Qi (Xz n chs ws t)), .int ((chs.length : Int) + 1)] = .ok (.sh (.bool true)) := by
 have e1 := YW (ds := nD t) (by rw [Yp]; exact omB ht)
 have e2 := KC K hm hc ht
 have e3 := Jg K (Xz n chs ws t) (by rw [YZ]; exact omB hb)
 have e4 := YL K (Yt (Xz n chs ws t))
 have lf := O1 (Yt (Xz n chs ws t))
 have e5 := Lj t
 have e6 := Ll t
 unfold Yd YU
 obtain rfl | ⟨t', c, rfl⟩ : t = [] ∨ ∃ t' c, t = t' ++ [c] := by
  rcases List.eq_nil_or_concat t with h | ⟨a, b, h⟩
  ·exact .inl h
  ·exact .inr ⟨a, b, by rw [h, List.concat_eq_append]⟩
 ·have e6 : eqI (.list (nD [])) (.list []) = some (.sh (.bool true)) := e6
  generalize UZ (Yt (Xz n chs ws [])) = X at *
  generalize Qi (Xz n chs ws []) = Y at *
  generalize mth n chs ws = M at *
  refine' QU [some (.sh M), some (.sh (.list (nD []))), some (.sh (.list Y)), some (.sh (.int ((chs.length : Int) + 1))), none, none] rfl rfl ?_ Q0
  repeat' (first|(with_reducible first|assumption|exact QO|exact Zl|exact Uw|exact Kj|exact QH|exact Qt|apply Qp|apply Yz|exact XX|exact QL|exact QX|exact QY|exact Xi|exact Zo|exact Qz|apply Qn|apply QE|apply QB|apply ZH|apply XG|apply Zn|apply Xf|apply Qu|apply QK|apply QC|apply QP|apply Xp|apply XR|apply KW|apply XJ|apply Yu|apply ZL|apply Zq|apply Qq|apply Q2|apply QS|apply Xh|apply Q7|apply FM|apply Md|apply Mh|apply Mg|apply Mi|apply Mj|apply Ml|apply Mm|apply Mr|apply Ms|apply Mz|apply MI|apply MR|apply MT|apply MV|exact Mt|apply My|apply MG|apply MM|exact MN|apply MP|apply MQ)|exact Q6 rfl|apply Zp rfl QO|apply Zp rfl Zl|exact (rfl : Qg _ = true)|exact QN rfl|exact (rfl : (_ : Option _) = some _)|decide)
 ·have hc' : ∀ x ∈ t', x < ws.length := fun x hx => hc x (List.mem_append_left _ hx)
  rw [List.length_append, List.length_singleton] at ht hb
  rw [Nat.add_mul, Nat.one_mul] at hb
  have f2 := KC K hm hc' (by exact Nat.le_of_lt ht)
  have f3 := Jg K (Xz n chs ws t') (by rw [YZ]; lia)
  have f4 := YL K (Yt (Xz n chs ws t'))
  have lf' := O1 (Yt (Xz n chs ws t'))
  have f5 : eqI (.list (nD (t' ++ [c]))) (.list []) = some (.sh (.bool false)) := by
   rw [FY]
   have := Oq ((t' ++ [c]).map fun (c : Nat) => (c : Int)) []
   rw [Kd.mpr (by simp)] at this
   exact this
  have f6 := XA (ds := Qi (Xz n chs ws (t' ++ [c]))) (by rw [QJ, YZ, List.length_append, List.length_singleton, Nat.add_mul, Nat.one_mul]; exact omB hb)
  rw [QJ, YZ, List.length_append, List.length_singleton, Nat.add_mul, Nat.one_mul] at f6
  have f7 : OE (.int ((t'.length * (chs.length + 1) + (chs.length + 1) : Nat) : Int)) (.int ((chs.length : Int) + 1)) = some (.sh (.int ((t'.length * (chs.length + 1) : Nat) : Int))) := by
   show some (T.sh (.int _)) = _
   congr 3; (simpa using ht)
  have f8 : YB (.list (Qi (Xz n chs ws (t' ++ [c])))) none (some ((t'.length * (chs.length + 1) : Nat) : Int)) = some (.ow true (.list (Qi (Xz n chs ws t')))) := by
   rw [JI (by rw [QJ, YZ, List.length_append, List.length_singleton, Nat.add_mul, Nat.one_mul]; exact omB hb), Da, DW, ← YZ (n := n) (chs := chs) (ws := ws) (t := t')]
   unfold Qi
   rw [← List.map_take, List.take_append_of_le_length (Nat.le_refl _), List.take_length]
  have f9 : (nD (t' ++ [c])).getLast? = some (.int (c : Nat)) := by unfold nD; rw [List.map_append]; exact List.getLast?_concat
  have f10 : (nD (t' ++ [c])).dropLast = nD t' := by unfold nD; rw [List.map_append]; exact List.dropLast_concat
  have f11 : nD t' ++ [.int (c : Nat)] = nD (t' ++ [c]) := by unfold nD; rw [List.map_append]; rfl
  have hlen : (nD t').length ≤ 1000000 := by rw [Yp]; exact Nat.le_trans (Nat.le_of_lt ht) (by decide)
  have hlen2 : (nD (t' ++ [c])).length ≤ 1000000 := by rw [Yp, List.length_append, List.length_singleton]; exact omB ht
  have g1 : List.set ([some (.sh (mth n chs ws)), some (.sh (.list (nD (t' ++ [c])))), some (.sh (.list (Qi (Xz n chs ws (t' ++ [c]))))), some (.sh (.int ((chs.length : Int) + 1))), some (.ow true (.list (nD (t' ++ [c])))), none] : AEnv) 4 (some (.ow true (.list (nD (t' ++ [c])).dropLast))) = [some (.sh (mth n chs ws)), some (.sh (.list (nD (t' ++ [c])))), some (.sh (.list (Qi (Xz n chs ws (t' ++ [c]))))), some (.sh (.int ((chs.length : Int) + 1))), some (.ow true (.list (nD t'))), none] := by rw [f10]; rfl
  have g2 : List.set ([some (.sh (mth n chs ws)), some (.sh (.list (nD (t' ++ [c])))), some (.sh (.list (Qi (Xz n chs ws (t' ++ [c]))))), some (.sh (.int ((chs.length : Int) + 1))), some (.ow true (.list (nD t'))), some (.sh (.int (c : Nat)))] : AEnv) 4 (some (.ow true (.list (nD t' ++ [.int (c : Nat)])))) = [some (.sh (mth n chs ws)), some (.sh (.list (nD (t' ++ [c])))), some (.sh (.list (Qi (Xz n chs ws (t' ++ [c]))))), some (.sh (.int ((chs.length : Int) + 1))), some (.ow true (.list (nD (t' ++ [c])))), some (.sh (.int (c : Nat)))] := by rw [f11]; rfl
  clear f10 f11
  generalize UZ (Yt (Xz n chs ws (t' ++ [c]))) = X at *
  generalize UZ (Yt (Xz n chs ws t')) = X' at *
  generalize Qi (Xz n chs ws (t' ++ [c])) = Y at *
  generalize Qi (Xz n chs ws t') = Y' at *
  generalize mth n chs ws = M at *
  generalize nD (t' ++ [c]) = N at *
  generalize nD t' = N' at *
  refine' QU [some (.sh M), some (.sh (.list N)), some (.sh (.list Y)), some (.sh (.int ((chs.length : Int) + 1))), none, none] rfl rfl ?_ Q0
  repeat' (first|(with_reducible first|assumption|exact QO|exact Zl|exact Uw|exact Kj|exact QH|exact Qt|apply Qp|apply Yz|exact XX|exact QL|exact QX|exact QY|exact Xi|exact Zo|exact Qz|apply Qn|apply QE|apply QB|apply ZH|apply XG|apply Zn|apply Xf|apply Qu|apply QK|apply QC|apply QP|apply Xp|apply XR|apply KW|apply XJ|apply Yu|apply ZL|apply Zq|apply Qq|apply Q2|apply QS|apply Xh|apply Q7|apply FM|apply Md|apply Mh|apply Mg|apply Mi|apply Mj|apply Ml|apply Mm|apply Mr|apply Ms|apply Mz|apply MI|apply MR|apply MT|apply MV|exact Mt|apply My|apply MG|apply MM|exact MN|apply MP|apply MQ)|exact Q6 rfl|apply Zp rfl QO|apply Zp rfl Zl|exact (rfl : Qg _ = true)|exact QN rfl|exact (rfl : (_ : Option _) = some _)|decide)
end Mine
end

section
set_option Elab.async false
set_option maxRecDepth 100000
set_option maxHeartbeats 4000000
set_option linter.unusedSimpArgs false
set_option linter.unusedVariables false
namespace Mine
open PySem PySem.W
structure KF10 (K : Frag) : Prop where
 row : ExcI K 56 1
 call : ExcI K 92 4
theorem Uy (K : Frag) {m : D} {ds : List D} (h1 : 40 < ds.length) (h2 : ds.length ≤ 1000) : X5 K [m, .list ds] = .exc 92 := by
 have e1 := Y3 K ds
 have e2 := XA (ds := ds) (by exact omB h2)
 have e3 := FL (a := (ds.length : Int)) (b := 40) (by exact Int.ofNat_lt.mpr h1)
 unfold X5 YF
 refine' QU [some (.sh m), some (.sh (.list ds)), none] rfl rfl ?_ Z9
 repeat' (first|(with_reducible first|assumption|exact QO|exact QH|exact Qt|apply Qp|exact XX|apply Zj|exact Xk|exact QL|exact QY|exact Q5|apply Qn|apply QE|apply QT|apply Qu|apply QK|apply QV|apply QP|apply Xp|apply XR|apply Qq|apply Q2|apply ZI|apply Md|apply Mi|apply Ml|apply Mo|apply Mp|apply Ms|apply Mz|apply MA|exact Mt|exact Mx|apply My|exact MO|apply MP)|exact (rfl : Qg _ = true)|exact (rfl : (_ : Option _) = some _)|decide)
theorem Jx (K : Frag) {n : Nat} {chs ws : List (List Nat)} (h4 : ws.length ≤ 4) {t : List Nat} {d : D} {r : List D} (hr : ∀ c ∈ t, c < ws.length) (hd : Xd K [mth n chs ws, d] = .exc 92) (hl : (nD t ++ d :: r).length ≤ 1000) : X5 K [mth n chs ws, .list (nD t ++ d :: r)] = .exc 92 := by
 by_cases h40 : 40 < (nD t ++ d :: r).length
 ·exact Uy K h40 hl
 obtain ⟨v, h⟩ := Ba K (n := n) (chs := chs) (ws := ws) (dc := .list (nD t ++ d :: r)) h4 t none hr
 have h := h (d :: r)
 generalize nD t ++ d :: r = A at *
 have e1 := Y3 K A
 have e2 := XA (ds := A) (by exact omB hl)
 have e3 := VN (a := (A.length : Int)) (b := 40) (by (exact_mod_cast h40))
 have e4 : X0 (.list A) = some A := rfl
 have h : Xs (QF 2) (Qo (XF (Qc (J0 285 "need_call" 0 (Xd K) (Qb (eOp 2) Qj)))) Qy) A [some (.sh (mth n chs ws)), some (.sh (.list A)), none] = .exc 92 [some (.sh (mth n chs ws)), some (.sh (.list A)), some (.sh d)] := by
  rw [h]
  unfold mth at *
  repeat' (first|(with_reducible first|assumption|exact QO|exact Zb|exact QH|exact Qt|apply Qp|exact Us|exact Xk|exact Xi|exact Qz|exact Q5|apply Qn|apply QE|apply QT|apply Qu|apply QK|apply QP|apply Xp|apply XR|apply QG|apply Qq|apply Q2|apply Xh|apply Q9|apply Uk|apply Md|exact Me|apply Mi|apply Ml|apply Ms|apply Mz|apply MA|apply MJ|exact MU|apply MW|exact Mt|apply My|apply MM|exact MO|apply MQ|apply QZ|apply Xo|exact M1|apply M2)|exact (rfl : Qg _ = true)|exact QN rfl|exact (rfl : (_ : Option _) = some _)|decide)
 unfold X5 YF
 refine' QU [some (.sh (mth n chs ws)), some (.sh (.list A)), none] rfl rfl ?_ Z9
 repeat' (first|(with_reducible first|assumption|exact QO|exact Zb|exact QH|exact Qt|apply Qp|exact Us|exact Xk|exact Xi|exact Qz|exact Q5|apply Qn|apply QE|apply QT|apply Qu|apply QK|apply QP|apply Xp|apply XR|apply QG|apply Qq|apply Q2|apply Xh|apply Q9|apply Uk|apply Md|exact Me|apply Mi|apply Ml|apply Ms|apply Mz|apply MA|apply MJ|exact MU|apply MW|exact Mt|apply My|apply MM|exact MO|apply MQ|apply QZ|apply Xo|exact M1|apply M2)|exact (rfl : Qg _ = true)|exact QN rfl|exact (rfl : (_ : Option _) = some _)|decide)
theorem Ol (K : Frag) {m : D} : X5 K [m, .none] = .exc 92 := by
 have e1 : Q1 K [.none, .glob (.type "list")] = some (.sh (.bool false)) := by kernel_rfl
 unfold X5 YF
 refine' QU [some (.sh m), some (.sh .none), none] rfl rfl ?_ Z9
 repeat' (first|(with_reducible first|assumption|exact QO|exact QH|exact Qt|apply Qp|exact XX|apply Zj|exact QL|exact QY|exact Q5|apply QE|apply Qu|apply QK|apply QV|apply QP|apply Xp|apply XR|apply Qq|apply Q2|apply ZI|apply Md|apply Mi|apply Ml|apply Mo|apply Mp|apply Ms|exact Mu|exact Mx|exact MO|apply MP)|exact (rfl : Qg _ = true)|exact (rfl : (_ : Option _) = some _)|decide)
theorem EG (K : Frag) (hK : ExcI K 56 1) {m d : D} (h : Xy K [m, d] = .exc 56) : YY K [.int 0, m, d] = .ok (E0 "row") := by
 have w : Jz K [.exc 56] = .ok (E0 "row") := Kq K 56 1 (by decide) hK
 have mm := hK.m
 have e1 : eqI (.int 0) (.int 0) = some (.sh (.bool true)) := VI 0
 unfold YY Ws
 refine' QU [some (.sh (.int 0)), some (.sh m), some (.sh d), none] rfl rfl ?_ Q0
 repeat' (first|(with_reducible first|assumption|exact X3|exact Yw|exact Qt|apply Qp|exact Us|apply Qn|apply QE|apply Yn|apply QC|apply Qq|apply Q2|apply QS|apply G7|apply Mj|apply Ml|apply MR|exact MS|exact MN|exact MO|apply MP|apply MY)|exact Q6 rfl|exact (rfl : Qg _ = true)|exact (rfl : (_ : Option _) = some _)|decide)
theorem Ee (K : Frag) (hK : ExcI K 92 4) {m d : D} (h : YS K [m, d] = .exc 92) : YY K [.int 1, m, d] = .ok (E0 "call") := by
 have w : Jz K [.exc 92] = .ok (E0 "call") := Kq K 92 4 (by decide) hK
 have mm := hK.m
 have e1 : eqI (.int 1) (.int 0) = some (.sh (.bool false)) := VM (by decide)
 unfold YY Ws
 refine' QU [some (.sh (.int 1)), some (.sh m), some (.sh d), none] rfl rfl ?_ Q0
 repeat' (first|(with_reducible first|assumption|exact X3|exact Yw|exact Qt|apply Qp|exact Us|exact Qz|apply Qn|apply QE|apply Yn|apply QC|apply Qq|apply Q2|apply QS|apply G7|apply Mj|apply Ml|apply MR|exact MS|apply MM|exact MN|exact MO|apply MQ|apply MY)|exact Q6 rfl|exact (rfl : Qg _ = true)|exact (rfl : (_ : Option _) = some _)|decide)
theorem DU (K : Frag) {n : Nat} {chs ws : List (List Nat)} {d : D} (hc : By d = true) (ht : ∀ ds, d ≠ .tup ds) : QI K [mth n chs ws, d] = .exc 56 := YQ K (Bx K d hc ht)
theorem He (K : Frag) {n : Nat} {chs ws : List (List Nat)} {l : List Int} (hl : l.length ≤ 1000) (hn : l.length ≠ n) : QI K [mth n chs ws, .tup (iL l)] = .exc 56 := by
 by_cases h : 3 ≤ l.length ∧ l.length ≤ 12
 ·by_cases hp : l.Perm (rng l.length)
  ·exact Vx K (KU K ⟨hp, h.1, h.2⟩) (by rw [Q3]; exact omB hl) (by rw [Q3]; exact hn)
  ·exact YQ K (Oz K l h.1 h.2 hp)
 ·exact YQ K (CP K (iL l) (by rw [Q3]; exact omB hl) (by rw [Q3]; exact h))
theorem G4 (K : Frag) {n : Nat} {chs ws : List (List Nat)} (h3 : 3 ≤ n) (h12 : n ≤ 12) : QI K [mth n chs ws, .tup (iL ((rng n).take (n - 1) ++ [0]))] = .exc 56 := by
 have hl : ((rng n).take (n - 1) ++ [0]).length = n := by rw [List.length_append, List.length_take, XE, List.length_singleton]; lia
 refine YQ K (Oz K _ (by (rw [hl]; exact h3)) (by exact le_of_eq_of_le hl h12) fun hp => ?_)
 rw [hl] at hp
 have nd : ((rng n).take (n - 1) ++ [0]).Nodup := hp.nodup_iff.mpr (W6 h3 h12).nodup
 have h1 : (0 : Int) ∈ (rng n).take (n - 1) := by
  obtain ⟨k, rfl⟩ : ∃ k, n = k + 2 := ⟨n - 2, by lia⟩
  rw [show rng (k + 2) = 0 :: (List.range (k + 1)).map (fun i => ((i + 1 : Nat) : Int)) by unfold rng; rw [List.range_succ_eq_map, List.map_cons, List.map_map]; rfl, show k + 2 - 1 = k + 1 from rfl, List.take_succ_cons]
  exact .head _
 exact (List.nodup_append.mp nd).2.2 0 h1 0 (.head _) rfl
theorem Il (K : Frag) {n : Nat} {chs ws : List (List Nat)} (h3 : 3 ≤ n) (h12 : n ≤ 12) (i : Nat) (hi : i < 5) : ∃ d, [D.list (iL (rng n)), .none, .tup (iL ((rng n).drop 1)), .tup (iL ((rng n).take (n - 1) ++ [0])), .tup (iL (rng (n + 1)))][i]? = some d ∧ QI K [mth n chs ws, d] = .exc 56 := by
 match i with
 | 0 => exact ⟨_, rfl, DU K rfl (fun _ h => by cases h)⟩
 | 1 => exact ⟨_, rfl, DU K rfl (fun _ h => by cases h)⟩
 | 2 => exact ⟨_, rfl, He K (by rw [List.length_drop, XE]; omega) (by rw [List.length_drop, XE]; lia)⟩
 | 3 => exact ⟨_, rfl, G4 K h3 h12⟩
 | 4 => exact ⟨_, rfl, He K (by rw [XE]; exact Nat.lt_of_le_of_lt h12 (by decide)) (by rw [XE]; (simpa using h3))⟩
theorem Ew (K : Frag) {n : Nat} {chs ws : List (List Nat)} {fs : List (List Int)} (hf : ∀ x ∈ fs, Row n x) (hl : fs.length ≤ 60) {d : D} (hd : QI K [mth n chs ws, d] = .exc 56) (p i : Nat) (hi : i < 5) : ∃ e, [D.list (Qi (fs.take p) ++ [d] ++ Qi (fs.drop p)), .list (Qi (fs.take p) ++ [d] ++ Qi (fs.drop p)), .list (List.replicate 61 (.tup (iL (rng n)))), .tup (Qi fs), .none][i]? = some e ∧ Xy K [mth n chs ws, e] = .exc 56 := by
 have h1 : Xy K [mth n chs ws, .list (Qi (fs.take p) ++ [d] ++ Qi (fs.drop p))] = .exc 56 := by
  rw [List.append_assoc, List.singleton_append]
  exact ZX K (OR K (fun x hx => hf x (List.mem_of_mem_take hx)) hd (by
   rw [List.length_append, List.length_cons, QJ, QJ, List.length_take, List.length_drop]; omega))
 match i with
 | 0 => exact ⟨_, rfl, h1⟩
 | 1 => exact ⟨_, rfl, h1⟩
 | 2 => exact ⟨_, rfl, ZX K (UH K (by rw [List.length_replicate]; decide) (by rw [List.length_replicate]; decide))⟩
 | 3 => exact ⟨_, rfl, ZX K (OV K)⟩
 | 4 => exact ⟨_, rfl, ZX K (K8 K)⟩
theorem GL (K : Frag) {n : Nat} {chs ws : List (List Nat)} (h4 : ws.length ≤ 4) {t : List Nat} (ht : ∀ c ∈ t, c < ws.length) (hl : t.length ≤ 40) (i : Nat) (hi : i < 5) : ∃ e, [D.list (nD t ++ [.int (ws.length : Nat)]), .list (List.replicate 41 (.int 0)), .none, .list (.int (-1) :: nD t), .list [.bool true]][i]? = some e ∧ YS K [mth n chs ws, e] = .exc 92 := by
 match i with
 | 0 => exact ⟨_, rfl, JL K (Jx K h4 ht (JQ K rfl (fun i h => by cases h; (simpa using h4)) h4) (by rw [List.length_append, Yp]; simp; exact omB hl))⟩
 | 1 => exact ⟨_, rfl, JL K (Uy K (by rw [List.length_replicate]; decide) (by rw [List.length_replicate]; decide))⟩
 | 2 => exact ⟨_, rfl, JL K (Ol K)⟩
 | 3 => exact ⟨_, rfl, JL K (Jx K (t := []) h4 (fun c h => by cases h) (JQ K rfl (fun i h => by cases h; (simpa using h4)) h4) (by show (nD t).length + 1 ≤ 1000; rw [Yp]; exact Nat.lt_of_le_of_lt hl (by decide)))⟩
 | 4 => exact ⟨_, rfl, JL K (Jx K (t := []) h4 (fun c h => by cases h) (JQ K rfl (fun i h => by cases h) h4) (by decide))⟩
theorem OZ (K : Frag) (kf : KF10 K) {n : Nat} {chs ws : List (List Nat)} (hm : Mth n chs ws) {fs : List (List Int)} (hf : ∀ x ∈ fs, Row n x) (hfl : fs.length ≤ 60) {t : List Nat} (ht : ∀ c ∈ t, c < ws.length) (htl : t.length ≤ 40) (c : Int) : JF K [mth n chs ws, .tup (iL (rng n)), .list (Qi fs), .list (nD t), .list (chD ws), .int c] = .ok (.sh (.bool true)) := by
 have h3 := hm.c.h3
 have h12 := hm.c.h12
 have h4 := hm.l
 have r := W6 h3 h12
 have e1 := U3 (ds := iL (rng n)) (by rw [Q3, XE]; exact omB h12)
 rw [Q3, XE] at e1
 have w3 : YB (.tup (iL (rng n))) (some 1) none = some (.sh (.tup (iL ((rng n).drop 1)))) := by
  have := Ov (ds := iL (rng n)) (p := 1) (by rw [Q3, XE]; exact Nat.zero_lt_of_lt h3)
  rw [Ej (by rw [Q3, XE]; exact omB h12), show (1 : Int) = ((1 : Nat) : Int) from rfl, this]
  unfold iL; rw [List.map_drop]
 have w1 : YB (.tup (iL (rng n))) none (some (-1)) = some (.sh (.tup (iL ((rng n).take (n - 1))))) := by
  rw [Ej (by rw [Q3, XE]; exact omB h12)]
  have : clipAt (iL (rng n)).length (-1) = n - 1 := by
   have h := clipAt_neg (iL (rng n)).length 1 (by decide)
   rw [Q3, XE] at h ⊢
   exact h
  show some (T.sh (.tup ((iL (rng n)).take (clipAt (iL (rng n)).length (-1) - 0)))) = _
  rw [this]
  exact congrArg (fun l => some (T.sh (.tup l))) List.map_take.symm
 have w4 : Jl (.int 1) = some (.sh (.int (-1))) := rfl
 have w5 : Xg (.tup (iL ((rng n).take (n - 1)))) (.tup [.int 0]) = some (.sh (.tup (iL ((rng n).take (n - 1) ++ [0])))) := by
  rw [IY (by rw [Q3, List.length_take, XE]; simp; exact omB h12)]
  unfold iL; rw [List.map_append]; rfl
 have w7 : Yv [.tup (iL (rng n))] = some (.ow true (.list (iL (rng n)))) := CO (by rw [Q3, XE]; exact omB h12)
 have w8 : XN [.int ((n : Int) + 1)] = some (.sh (.range 0 ((n : Int) + 1) 1)) := rfl
 have w9 : YT [.range 0 ((n : Int) + 1) 1] = some (.sh (.tup (iL (rng (n + 1))))) := O0 (n + 1) (by exact Nat.lt_of_le_of_lt h12 (by decide))
 obtain ⟨i, hi1, hi2⟩ := XV c (n := 5) (by decide)
 have y1 : XB (.int c) (.int 5) = some (.sh (.int i)) := by rw [QW (by decide)]; rw [show c.fmod 5 = i from hi1]
 obtain ⟨d, y2, y3⟩ := Il K (chs := chs) (ws := ws) h3 h12 i hi2
 have y4 : Xn (.list [D.list (iL (rng n)), .none, .tup (iL ((rng n).drop 1)), .tup (iL ((rng n).take (n - 1) ++ [0])), .tup (iL (rng (n + 1)))]) (.int i) = some (.sh d) := Z2 (by exact Int.ofNat_nonneg _) (by exact omI hi2 (by decide)) (by rw [Int.toNat_natCast]; exact y2)
 have e2 := XA (ds := Qi fs) (by rw [QJ]; exact omB hfl)
 rw [QJ] at e2
 obtain ⟨p, hp1, hp2⟩ := XV (c.fdiv 5) (n := fs.length + 1) (by exact Nat.succ_pos _)
 have y5 : XB (.int (c.fdiv 5)) (.int ((fs.length : Int) + 1)) = some (.sh (.int p)) := by
  have : ((fs.length : Int) + 1) = ((fs.length + 1 : Nat) : Int) := by exact Int.natCast_add _ _
  rw [QW (by lia), this, hp1]
 have y6 : YB (.list (Qi fs)) none (some (p : Int)) = some (.ow true (.list (Qi (fs.take p)))) := by
  rw [JI (by rw [QJ]; exact omB hfl), Da]
  unfold Qi; rw [List.map_take]
 have y7 : YB (.list (Qi fs)) (some (p : Int)) none = some (.ow true (.list (Qi (fs.drop p)))) := by
  rw [JI (by rw [QJ]; exact omB hfl), Ov (by rw [QJ]; exact Nat.le_of_lt_succ hp2)]
  unfold Qi; rw [List.map_drop]
 have y8 : Xg (.list (Qi (fs.take p))) (.list [d]) = some (.ow true (.list (Qi (fs.take p) ++ [d]))) := Wq (by rw [QJ, List.length_take]; simp; lia)
 have y9 : Xg (.list (Qi (fs.take p) ++ [d])) (.list (Qi (fs.drop p))) = some (.ow true (.list (Qi (fs.take p) ++ [d] ++ Qi (fs.drop p)))) := Wq (by rw [List.length_append, QJ, QJ, List.length_take, List.length_drop]; simp; lia)
 obtain ⟨j, hj1, hj2⟩ := XV (c.fdiv 50) (n := 5) (by decide)
 have y10 : XB (.int (c.fdiv 50)) (.int 5) = some (.sh (.int j)) := by rw [QW (by decide)]; rw [show (c.fdiv 50).fmod 5 = j from hj1]
 obtain ⟨e, y11, y12⟩ := Ew K hf hfl y3 p j hj2
 have y13 : WL (.list [.tup (iL (rng n))]) (.int 61) = some (.ow true (.list (List.replicate 61 (.tup (iL (rng n)))))) := EV (by decide)
 have y14 := Jn (ds := Qi fs) (by rw [QJ]; exact omB hfl)
 have y15 : Xn (.list [D.list (Qi (fs.take p) ++ [d] ++ Qi (fs.drop p)), .list (Qi (fs.take p) ++ [d] ++ Qi (fs.drop p)), .list (List.replicate 61 (.tup (iL (rng n)))), .tup (Qi fs), .none]) (.int j) = some (.sh e) := Z2 (by exact Int.ofNat_nonneg _) (by exact omI hj2 (by decide)) (by rw [Int.toNat_natCast]; exact y11)
 obtain ⟨g, z1, z2⟩ := GL K (n := n) (chs := chs) h4 ht htl i hi2
 have z3 := XA (ds := chD ws) (by rw [X6]; exact omB h4)
 rw [X6] at z3
 have z4 : Xg (.list (nD t)) (.list [.int (ws.length : Nat)]) = some (.ow true (.list (nD t ++ [.int (ws.length : Nat)]))) := Wq (by rw [Yp]; simp; exact omB htl)
 have z5 : WL (.list [.int 0]) (.int 41) = some (.ow true (.list (List.replicate 41 (.int 0)))) := EV (by decide)
 have z6 : Xg (.list [.int (-1)]) (.list (nD t)) = some (.ow true (.list (.int (-1) :: nD t))) := Wq (by rw [Yp]; simp; exact Nat.le_trans (Nat.add_le_add_left htl _) (by decide))
 have z7 : Xn (.list [D.list (nD t ++ [.int (ws.length : Nat)]), .list (List.replicate 41 (.int 0)), .none, .list (.int (-1) :: nD t), .list [.bool true]]) (.int i) = some (.sh g) := Z2 (by exact Int.ofNat_nonneg _) (by exact omI hi2 (by decide)) (by rw [Int.toNat_natCast]; exact z1)
 have u1 := EG K kf.row y12
 have u2 := Ee K kf.call z2
 unfold E0 at u1 u2
 have u3 := FG "row" I8
 have u4 := FG "call" Iz
 clear y2 y11 z1 y12 z2 y3
 generalize mth n chs ws = M at *
 generalize Qi (fs.take p) ++ [d] ++ Qi (fs.drop p) = S at *
 generalize List.replicate 61 (D.tup (iL (rng n))) = R1 at *
 generalize List.replicate 41 (D.int 0) = R2 at *
 unfold JF UN
 refine' QU [some (.sh M), some (.sh (.tup (iL (rng n)))), some (.sh (.list (Qi fs))), some (.sh (.list (nD t))), some (.sh (.list (chD ws))), some (.sh (.int c)), none, none, none, none, none, none] rfl rfl ?_ Q0
 repeat' (first|(with_reducible first|assumption|exact QO|exact Zl|exact X3|exact KI|exact Vt|exact De|exact LF|exact IR|exact KZ|exact QH|exact Qt|apply Qp|exact XX|apply Zj|exact Xk|exact QL|exact QX|exact QY|exact Zo|apply JB|apply Qn|apply QE|apply QB|apply XD|apply ZH|apply XG|apply Xf|apply Qu|apply QK|apply QC|apply QV|apply KW|apply Z1|apply ZN|apply XJ|apply Yu|apply ZL|apply Qq|apply QS|apply Q7|apply QW|apply XW|apply Md|apply Mf|apply Mh|apply Mg|apply Mi|apply Mj|apply Ml|apply Mm|apply Mo|apply Mp|apply Mq|apply Mr|apply MI|apply MR|apply MV|apply MG|apply MM|exact MN)|exact Q6 rfl|exact (rfl : Qg _ = true)|exact QN rfl|apply JT rfl|exact (rfl : (_ : Option _) = some _)|decide)
end Mine
end

section
set_option Elab.async false
set_option maxRecDepth 100000
set_option maxHeartbeats 8000000
set_option linter.unusedSimpArgs false
set_option linter.unusedVariables false
namespace Mine
open PySem PySem.W
theorem B7 {a0 a1 a2 a3 a4 a5 a6 a7 a8 a9 a10 a13 a14 a15 : Option T} : ∀ (L : List (List (List Int))) (acc : List (List Int)) (v : Option T), acc.length + L.flatten.length ≤ 1000 → ∃ v',
  Xs (QF 12) (Qo (Qx 11 (Qr Xg (eOp 11) (eOp 12))) Qy) (ldD L) [a0, a1, a2, a3, a4, a5, a6, a7, a8, a9, a10, some (.ow true (.list (Qi acc))), v, a13, a14, a15] = .ok .next [a0, a1, a2, a3, a4, a5, a6, a7, a8, a9, a10, some (.ow true (.list (Qi (acc ++ L.flatten)))), v', a13, a14, a15] := by
 intro L
 induction L with
 | nil => intro acc v _; exact ⟨v, by rw [show ([] : List (List (List Int))).flatten = [] from rfl, List.append_nil]; rfl⟩
 | cons A L ih =>
  intro acc v hl
  rw [show (A :: L).flatten = A ++ L.flatten from rfl, List.length_append] at hl
  have e1 : Xg (.list (Qi acc)) (.list (Qi A)) = some (.ow true (.list (Qi (acc ++ A)))) := by
   rw [Wq (by rw [QJ, QJ]; lia)]
   unfold Qi; rw [List.map_append]
  obtain ⟨v', h⟩ := ih (acc ++ A) (some (.sh (.list (Qi A)))) (by rw [List.length_append]; (rw [Nat.add_assoc]; exact hl))
  refine ⟨v', ?_⟩
  rw [show acc ++ (A :: L).flatten = acc ++ A ++ L.flatten by rw [List.append_assoc]; rfl]
  show Xs _ _ (D.list (Qi A) :: ldD L) _ = _
  repeat' (first|(with_reducible first|assumption|exact KZ|exact Lz|exact Qz|apply ZH|apply Xf|apply Qq|apply Q7|apply Mg|apply MV|apply MM|apply QZ|apply Xo|apply MZ)|exact (rfl : Qg _ = true)|exact (rfl : (_ : Option _) = some _)|decide)
theorem F9 (K : Frag) {m : Nat} {w : Int} {ws : List (List Nat)} (hw : 0 < ws.length) (h4 : ws.length ≤ 4) (hm : m ≤ 40) : ∃ t : List Nat, t.length = m ∧ (∀ c ∈ t, c < ws.length) ∧ Yl (QF 1) Ux (Qr XB (Qc (Qr ZC (Qc (QA (Xq K) (Qb (eOp 3) (Qb (eOp 1) Qj)))) (Qc (Qd (.int 9))))) (Qc (Q8 YD (Qb (eOp 2) Qj)))) [none, none, some (.sh (.list (chD ws))), some (.sh (.int w))] (nL (List.range' 0 m)) [] = some (nD t) := by
 refine ⟨(List.range' 0 m).map fun (j : Nat) => (((mix w (j : Int)).fdiv 9).fmod ws.length).toNat, by simp, fun c hc => ?_, ?_⟩
 ·obtain ⟨j, _, rfl⟩ := List.mem_map.mp hc
  obtain ⟨k, hk1, hk2⟩ := XV ((mix w (j : Int)).fdiv 9) hw
  rw [hk1]; exact hk2
 ·have := Y1 (b := QF 1) (f := (Qr XB (Qc (Qr ZC (Qc (QA (Xq K) (Qb (eOp 3) (Qb (eOp 1) Qj)))) (Qc (Qd (.int 9))))) (Qc (Q8 YD (Qb (eOp 2) Qj))))) (ρ₀ := [none, none, some (.sh (.list (chD ws))), some (.sh (.int w))]) (g := fun d => match d with | .int k => .int ((((mix w k).fdiv 9).fmod ws.length).toNat : Nat) | _ => .none) (nL (List.range' 0 m)) (fun d hd => ?_) (by unfold nL; simp; exact omB hm)
  ·rw [this]
   unfold nL nD
   rw [List.map_map, List.map_map]
   rfl
  ·obtain ⟨j, hj, rfl⟩ := List.mem_map.mp hd
   have hj2 : j < m := by simpa using (List.mem_range'_1.mp hj).2
   have e5 := Zv K w (j : Int) (Y8 (by exact Nat.lt_of_lt_of_le hj2 (Nat.le_trans hm (by decide))))
   have e7 := XA (ds := chD ws) (by rw [X6]; exact omB h4)
   rw [X6] at e7
   obtain ⟨k, hk1, hk2⟩ := XV ((mix w (j : Int)).fdiv 9) hw
   have e6 : XB (.int ((mix w (j : Int)).fdiv 9)) (.int (ws.length : Int)) = some (.sh (.int k)) := by rw [QW (by exact Int.ofNat_ne_zero.mpr (Nat.ne_of_gt hw)), hk1]
   refine ⟨[none, some (.sh (.int j)), some (.sh (.list (chD ws))), some (.sh (.int w))], .sh (.int k), [none, some (.sh (.int j)), some (.sh (.list (chD ws))), some (.sh (.int w))], rfl, ?_, ?_⟩
   ·repeat' (first|(with_reducible first|assumption|exact QO|exact QH|exact Qt|apply Qp|exact Xk|apply Qn|apply QE|apply XG|apply Qu|apply QK|apply QC|apply QW|apply XW|apply Md|apply Mh|apply Mg|apply Mi|apply Mj|apply Ml)|exact Q6 rfl|exact (rfl : Qg _ = true)|exact (rfl : (_ : Option _) = some _)|decide)
   ·show D.int k = D.int ((((mix w (j : Int)).fdiv 9).fmod ws.length).toNat : Nat)
    rw [hk1]; rfl
theorem HB (c : Int) : ∃ n : Nat, 3 ≤ n ∧ n ≤ 12 ∧ ∃ i r x : Nat, XB (.int c) (.int 4) = some (.sh (.int i)) ∧ XB (.int (c.fdiv 4)) (.int 10) = some (.sh (.int r)) ∧ Xn (.list [.int 0, .int 1, .int r, .int r]) (.int i) = some (.sh (.int x)) ∧ Xg (.int 3) (.int x) = some (.sh (.int n)) := by
 obtain ⟨i, hi1, hi2⟩ := XV c (n := 4) (by decide)
 obtain ⟨r, hr1, hr2⟩ := XV (c.fdiv 4) (n := 10) (by decide)
 have e1 : XB (.int c) (.int 4) = some (.sh (.int i)) := by rw [QW (by decide)]; rw [show c.fmod 4 = i from hi1]
 have e2 : XB (.int (c.fdiv 4)) (.int 10) = some (.sh (.int r)) := by rw [QW (by decide)]; rw [show (c.fdiv 4).fmod 10 = r from hr1]
 match i, hi2, e1 with
 | 0, _, e1 => exact ⟨3, by exact Nat.le_refl _, by exact Nat.le_add_left _ _, 0, r, 0, e1, e2, rfl, rfl⟩
 | 1, _, e1 => exact ⟨4, by exact Nat.le_succ _, by exact Nat.le_add_left _ _, 1, r, 1, e1, e2, rfl, rfl⟩
 | 2, _, e1 => exact ⟨3 + r, by exact Nat.le_add_right _ _, by (have := hr2; simp +arith at this ⊢; exact this), 2, r, r, e1, e2, rfl, rfl⟩
 | 3, _, e1 => exact ⟨3 + r, by exact Nat.le_add_right _ _, by (have := hr2; simp +arith at this ⊢; exact this), 3, r, r, e1, e2, rfl, rfl⟩
theorem I0 (i : Nat) (h : i < 8) : ∃ q : Nat, Xn (.list [.int 7, .int 1, .int 30, .int 7, .int 7, .int 7, .int 7, .int 7]) (.int (i : Int)) = some (.sh (.int q)) ∧ (i = 1 → q = 1) := by
 match i, h with
 | 0, _ => exact ⟨7, rfl, fun h => by cases h⟩
 | 1, _ => exact ⟨1, rfl, fun _ => rfl⟩
 | 2, _ => exact ⟨30, rfl, fun h => by cases h⟩
 | 3, _ => exact ⟨7, rfl, fun h => by cases h⟩
 | 4, _ => exact ⟨7, rfl, fun h => by cases h⟩
 | 5, _ => exact ⟨7, rfl, fun h => by cases h⟩
 | 6, _ => exact ⟨7, rfl, fun h => by cases h⟩
 | 7, _ => exact ⟨7, rfl, fun h => by cases h⟩
theorem HO {n : Nat} {chs : List (List Nat)} (hc : ∀ c ∈ chs, Change n c) {hs : List (List Int)} (hr : ∀ x ∈ hs, Row n x) : ∀ x ∈ (ldL chs hs).flatten, Row n x := fun x hx => by
 obtain ⟨A, hA, hxA⟩ := List.mem_flatten.mp hx
 obtain ⟨h, hh, rfl⟩ := List.mem_map.mp hA
 exact Cu hc (hr h hh) x hxA
theorem law10_plain (K : Frag) (kf : KF10 K) (ns : List Int) (hl : ns.length ≤ 63) : El K [.list (ns.map .int)] = .ok (.sh (.bool true)) := by
 show El K [.list (iL ns)] = _
 have c0 : Xb K [.list (iL ns), .int 0] = .ok (.sh (.int (ns.getD 0 0))) := X4 K ns 0 hl
 have c21 : Xb K [.list (iL ns), .int 21] = .ok (.sh (.int (ns.getD 21 0))) := X4 K ns 21 hl
 have c20 : Xb K [.list (iL ns), .int 20] = .ok (.sh (.int (ns.getD 20 0))) := X4 K ns 20 hl
 obtain ⟨n, h3, h12, i0, r0, x0, t1, t2, t3, t4⟩ := HB (ns.getD 0 0)
 obtain ⟨chs0, ws, f1, hc0, hw, h1, h4⟩ := BD K (n := n) (st := 1) (ns := ns) hl h3 h12
 have f1 : Y5 K [.list (iL ns), .int 1, .int n] = .ok (.sh (.tup [.list (chD chs0), .list (chD ws)])) := f1
 obtain ⟨i8, hi1, hi2⟩ := XV (ns.getD 21 0) (n := 8) (by decide)
 have t5 : XB (.int (ns.getD 21 0)) (.int 8) = some (.sh (.int i8)) := by rw [QW (by decide)]; rw [show (ns.getD 21 0).fmod 8 = i8 from hi1]
 obtain ⟨q, t6, hq⟩ := I0 i8 hi2
 have g0 : YB (.list (chD chs0)) none (some (q : Int)) = some (.ow true (.list (chD (chs0.take q)))) := by
  rw [JI (by rw [X6]; have := hc0.len; exact omB this), Da]
  unfold chD; rw [List.map_take]
 have hc : Chs n (chs0.take q) := ⟨h3, h12, by rw [List.length_take]; have := hc0.len; exact Nat.le_trans (Nat.min_le_right _ _) this, fun c hcm => hc0.all c (List.mem_of_mem_take hcm)⟩
 have hcq : (chs0.take q).length ≤ q := by rw [List.length_take]; exact Nat.min_le_left _ _
 generalize chs0.take q = chs at hc g0 hcq
 have hcl := hc.len
 have hm : Mth n chs ws := ⟨hc, hw, h4⟩
 have g1 := YW (ds := chD chs) (by rw [X6]; exact omB hcl)
 have g2 := YW (ds := chD ws) (by rw [X6]; exact omB h4)
 have hI : Vs (U5 K) [.int n, .list (chD chs), .list (chD ws)] = .ok [.int n, .list (chD chs), .list (chD ws)] := DP K hc hw h1 h4
 have s2 : (Oe [3, 4] (QA (Y5 K) (Qb (eOp 0) (Qb (Qc (Qd (.int 1))) (Qb (eOp 2) Qj))))) [some (.sh (.list (iL ns))), some (.sh (.int (ns.getD 0 0))), some (.sh (.int n)), none, none, none, none, none, none, none, none, none, none, none, none, none] = .ok .next [some (.sh (.list (iL ns))), some (.sh (.int (ns.getD 0 0))), some (.sh (.int n)), some (.sh (.list (chD chs0))), some (.sh (.list (chD ws))), none, none, none, none, none, none, none, none, none, none, none] := by
  refine FC (d := .tup [.list (chD chs0), .list (chD ws)]) (ρ₁ := [some (.sh (.list (iL ns))), some (.sh (.int (ns.getD 0 0))), some (.sh (.int n)), none, none, none, none, none, none, none, none, none, none, none, none, none]) ?_ (X1 rfl rfl)
  repeat' (first|(with_reducible first|assumption|exact QO|exact Zl|exact X3|exact Wl|exact Zb|exact Yw|exact Kj|exact KI|exact Vt|exact De|exact KZ|exact VU|exact BO|exact Be|exact QH|exact Qt|apply Qp|exact Zz|apply X8|apply ZM|exact K7|exact XX|apply Zj|exact Xk|exact QL|exact QX|exact QY|exact Xi|exact Zo|exact Qz|exact Q5|apply JB|apply Qn|apply QE|apply QB|apply Uf|apply XD|apply XG|apply Yn|apply QT|apply Xf|apply Qu|apply QK|apply QC|apply QV|apply QP|apply Xp|apply XR|apply Z1|apply XJ|apply Yu|apply ZL|apply QG|apply XM|apply Qq|apply Q2|apply QS|apply Q7|apply Q9|apply QW|apply XW|apply X1|apply Md|apply Mf|apply Mh|apply Mg|apply Mi|apply Mj|apply Ml|apply Mm|apply Mo|apply Mp|apply Mr|apply Ms|apply Mz|apply MA|apply MJ|apply MR|apply MV|apply MW|exact Mt|apply My|apply MM|exact MN|apply MP|apply MQ)|exact Q6 rfl|apply Zp rfl QO|apply Zp rfl Zl|exact (rfl : Qg _ = true)|exact QN rfl|apply JT rfl|exact (rfl : (_ : Option _) = some _)|decide)
 have s5 : (Ef 285 ["bells", "steps", "ways"] (U5 K) (Qb (eOp 2) (Qb (Qc (Q8 Yv (Qb (Qc (Xe 3)) Qj))) (Qb (Qc (Q8 Yv (Qb (Qc (Xe 4)) Qj))) Qj)))) [some (.sh (.list (iL ns))), some (.sh (.int (ns.getD 0 0))), some (.sh (.int n)), some (.ow true (.list (chD chs))), some (.sh (.list (chD ws))), some (.sh (.int i8)), none, none, none, none, none, none, none, none, none, none] = .ok (.sh (mth n chs ws)) [some (.sh (.list (iL ns))), some (.sh (.int (ns.getD 0 0))), some (.sh (.int n)), some (.sh (.list (chD chs))), some (.sh (.list (chD ws))), some (.sh (.int i8)), none, none, none, none, none, none, none, none, none, none] := by
  refine IM (bs := [.var 2, .val (.list (chD chs)), .val (.list (chD ws))]) (ds := [.int n, .list (chD chs), .list (chD ws)]) ?_ ?_ rfl hI
  ·repeat' (first|(with_reducible first|assumption|exact QO|exact Zl|exact X3|exact Wl|exact Zb|exact Yw|exact Kj|exact KI|exact Vt|exact De|exact KZ|exact VU|exact BO|exact Be|exact QH|exact Qt|apply Qp|exact Zz|apply X8|apply ZM|exact K7|exact XX|apply Zj|exact Xk|exact QL|exact QX|exact QY|exact Xi|exact Zo|exact Qz|exact Q5|apply JB|apply Qn|apply QE|apply QB|apply Uf|apply XD|apply XG|apply Yn|apply QT|apply Xf|apply Qu|apply QK|apply QC|apply QV|apply QP|apply Xp|apply XR|apply Z1|apply XJ|apply Yu|apply ZL|apply QG|apply XM|apply Qq|apply Q2|apply QS|apply Q7|apply Q9|apply QW|apply XW|apply X1|apply Md|apply Mf|apply Mh|apply Mg|apply Mi|apply Mj|apply Ml|apply Mm|apply Mo|apply Mp|apply Mr|apply Ms|apply Mz|apply MA|apply MJ|apply MR|apply MV|apply MW|exact Mt|apply My|apply MM|exact MN|apply MP|apply MQ)|exact Q6 rfl|apply Zp rfl QO|apply Zp rfl Zl|exact (rfl : Qg _ = true)|exact QN rfl|apply JT rfl|exact (rfl : (_ : Option _) = some _)|decide)
  ·repeat' (first|(with_reducible first|assumption|exact QO|exact Zl|exact X3|exact Wl|exact Zb|exact Yw|exact Kj|exact KI|exact Vt|exact De|exact KZ|exact VU|exact BO|exact Be|exact QH|exact Qt|apply Qp|exact Zz|apply X8|apply ZM|exact K7|exact XX|apply Zj|exact Xk|exact QL|exact QX|exact QY|exact Xi|exact Zo|exact Qz|exact Q5|apply JB|apply Qn|apply QE|apply QB|apply Uf|apply XD|apply XG|apply Yn|apply QT|apply Xf|apply Qu|apply QK|apply QC|apply QV|apply QP|apply Xp|apply XR|apply Z1|apply XJ|apply Yu|apply ZL|apply QG|apply XM|apply Qq|apply Q2|apply QS|apply Q7|apply Q9|apply QW|apply XW|apply X1|apply Md|apply Mf|apply Mh|apply Mg|apply Mi|apply Mj|apply Ml|apply Mm|apply Mo|apply Mp|apply Mr|apply Ms|apply Mz|apply MA|apply MJ|apply MR|apply MV|apply MW|exact Mt|apply My|apply MM|exact MN|apply MP|apply MQ)|exact Q6 rfl|apply Zp rfl QO|apply Zp rfl Zl|exact (rfl : Qg _ = true)|exact QN rfl|apply JT rfl|exact (rfl : (_ : Option _) = some _)|decide)
 have e1 := XA (ds := chD chs) (by rw [X6]; exact omB hcl)
 rw [X6] at e1
 have e2 := XA (ds := chD ws) (by rw [X6]; exact omB h4)
 rw [X6] at e2
 obtain ⟨t0, f2, ht1, ht2, ht3⟩ := VJ K hl (z := chs.length + 1) (m := ws.length) (by exact Nat.succ_pos _) (by exact Nat.succ_le_succ hcl) h1 h4
 have f2 : JH K [.list (iL ns), .int 9, .int ((chs.length : Int) + 1), .int (ws.length : Int)] = .ok (.ow true (.list (nD t0))) := f2
 generalize hM : mth n chs ws = M at *
 obtain ⟨t, v8, hc', ht, hb, s7⟩ : ∃ (t : List Nat) (v8 : Option T), (∀ c ∈ t, c < ws.length) ∧ t.length ≤ 40 ∧ t.length * (chs.length + 1) ≤ 100 ∧ (sIf (Xl eqI (eOp 5) (Qc (Qd (.int 1)))) (Qo (Qx 8 (Qr ZC (Qc (QA (Xb K) (Qb (eOp 0) (Qb (Qc (Qd (.int 21))) Qj)))) (Qc (Qd (.int 8))))) (Qo (Qx 7 (Ys [none, none, some 4, some 8] (Xu (Q8 XN (Qb (Qc (Qr XB (eOp 8) (Qc (Qd (.int 41))))) Qj))) (QF 1) Ux (Qr XB (Qc (Qr ZC (Qc (QA (Xq K) (Qb (eOp 3) (Qb (eOp 1) Qj)))) (Qc (Qd (.int 9))))) (Qc (Q8 YD (Qb (eOp 2) Qj)))))) Qy)) Qy) [some (.sh (.list (iL ns))), some (.sh (.int (ns.getD 0 0))), some (.sh (.int n)), some (.sh (.list (chD chs))), some (.sh (.list (chD ws))), some (.sh (.int i8)), some (.sh M), some (.ow true (.list (nD t0))), none, none, none, none, none, none, none, none] = .ok .next [some (.sh (.list (iL ns))), some (.sh (.int (ns.getD 0 0))), some (.sh (.int n)), some (.sh (.list (chD chs))), some (.sh (.list (chD ws))), some (.sh (.int i8)), some (.sh M), some (.ow true (.list (nD t))), v8, none, none, none, none, none, none, none] := by
  by_cases hi : i8 = 1
  ·subst hi
   have hq1 := hq rfl
   have k1 : eqI (.int ((1 : Nat) : Int)) (.int 1) = some (.sh (.bool true)) := VI 1
   obtain ⟨m, hm1, hm2⟩ := XV ((ns.getD 21 0).fdiv 8) (n := 41) (by decide)
   have k2 : XB (.int ((ns.getD 21 0).fdiv 8)) (.int 41) = some (.sh (.int m)) := by rw [QW (by decide)]; rw [show ((ns.getD 21 0).fdiv 8).fmod 41 = m from hm1]
   obtain ⟨t, q1, q2, q3⟩ := F9 K (w := (ns.getD 21 0).fdiv 8) (ws := ws) (by assumption) h4 (by exact Nat.le_of_lt_succ hm2 : m ≤ 40)
   have k3 : XN [.int (m : Int)] = some (.sh (.range 0 m 1)) := rfl
   have k4 := Je (m := m) (by exact omL hm2)
   refine ⟨t, some (.sh (.int ((ns.getD 21 0).fdiv 8))), q2, by omega, Nat.le_trans (Nat.mul_le_mul (by omega : t.length ≤ 40) (by lia : chs.length + 1 ≤ 2)) (by decide), ?_⟩
   repeat' (first|(with_reducible first|assumption|exact QO|exact Zl|exact X3|exact Wl|exact Zb|exact Yw|exact Kj|exact KI|exact Vt|exact De|exact KZ|exact VU|exact BO|exact Be|exact QH|exact Qt|apply Qp|exact Zz|apply X8|apply ZM|exact K7|exact XX|apply Zj|exact Xk|exact QL|exact QX|exact QY|exact Xi|exact Zo|exact Qz|exact Q5|apply JB|apply Qn|apply QE|apply QB|apply Uf|apply XD|apply XG|apply Yn|apply QT|apply Xf|apply Qu|apply QK|apply QC|apply QV|apply QP|apply Xp|apply XR|apply Z1|apply XJ|apply Yu|apply ZL|apply QG|apply XM|apply Qq|apply Q2|apply QS|apply Q7|apply Q9|apply QW|apply XW|apply X1|apply Md|apply Mf|apply Mh|apply Mg|apply Mi|apply Mj|apply Ml|apply Mm|apply Mo|apply Mp|apply Mr|apply Ms|apply Mz|apply MA|apply MJ|apply MR|apply MV|apply MW|exact Mt|apply My|apply MM|exact MN|apply MP|apply MQ)|exact Q6 rfl|apply Zp rfl QO|apply Zp rfl Zl|exact (rfl : Qg _ = true)|exact QN rfl|apply JT rfl|exact (rfl : (_ : Option _) = some _)|decide)
  ·have k1 : eqI (.int (i8 : Int)) (.int 1) = some (.sh (.bool false)) := VM (by exact fun e => hi (Int.ofNat.inj e))
   refine ⟨t0, none, ht1, by exact omB ht2, by exact omB ht3, ?_⟩
   repeat' (first|(with_reducible first|assumption|exact QO|exact Zl|exact X3|exact Wl|exact Zb|exact Yw|exact Kj|exact KI|exact Vt|exact De|exact KZ|exact VU|exact BO|exact Be|exact QH|exact Qt|apply Qp|exact Zz|apply X8|apply ZM|exact K7|exact XX|apply Zj|exact Xk|exact QL|exact QX|exact QY|exact Xi|exact Zo|exact Qz|exact Q5|apply JB|apply Qn|apply QE|apply QB|apply Uf|apply XD|apply XG|apply Yn|apply QT|apply Xf|apply Qu|apply QK|apply QC|apply QV|apply QP|apply Xp|apply XR|apply Z1|apply XJ|apply Yu|apply ZL|apply QG|apply XM|apply Qq|apply Q2|apply QS|apply Q7|apply Q9|apply QW|apply XW|apply X1|apply Md|apply Mf|apply Mh|apply Mg|apply Mi|apply Mj|apply Ml|apply Mm|apply Mo|apply Mp|apply Mr|apply Ms|apply Mz|apply MA|apply MJ|apply MR|apply MV|apply MW|exact Mt|apply My|apply MM|exact MN|apply MP|apply MQ)|exact Q6 rfl|apply Zp rfl QO|apply Zp rfl Zl|exact (rfl : Qg _ = true)|exact QN rfl|apply JT rfl|exact (rfl : (_ : Option _) = some _)|decide)
 have f3 := Bu K hm hc' ht
 have hhr := Ed hm t (W6 h3 h12) hc'
 have hhl := VA chs ws t (rng n)
 have s8 : (Oe [9, 10] (QA (JK K) (Qb (Qc (Xe 2)) (Qb (Qc (Xe 3)) (Qb (Qc (Xe 4)) (Qb (Qc (Xe 7)) Qj)))))) [some (.sh (.list (iL ns))), some (.sh (.int (ns.getD 0 0))), some (.sh (.int n)), some (.sh (.list (chD chs))), some (.sh (.list (chD ws))), some (.sh (.int i8)), some (.sh M), some (.ow true (.list (nD t))), v8, none, none, none, none, none, none, none] = .ok .next [some (.sh (.list (iL ns))), some (.sh (.int (ns.getD 0 0))), some (.sh (.int n)), some (.sh (.list (chD chs))), some (.sh (.list (chD ws))), some (.sh (.int i8)), some (.sh M), some (.sh (.list (nD t))), v8, some (.sh (.list (Qi (hds chs ws (rng n) t ++ [YG chs ws (rng n) t])))), some (.sh (.list (ldD (ldL chs (hds chs ws (rng n) t))))), none, none, none, none, none] := by
  refine FC (d := .tup [.list (Qi (hds chs ws (rng n) t ++ [YG chs ws (rng n) t])), .list (ldD (ldL chs (hds chs ws (rng n) t)))]) (ρ₁ := [some (.sh (.list (iL ns))), some (.sh (.int (ns.getD 0 0))), some (.sh (.int n)), some (.sh (.list (chD chs))), some (.sh (.list (chD ws))), some (.sh (.int i8)), some (.sh M), some (.sh (.list (nD t))), v8, none, none, none, none, none, none, none]) ?_ (X1 rfl rfl)
  repeat' (first|(with_reducible first|assumption|exact QO|exact Zl|exact X3|exact Wl|exact Zb|exact Yw|exact Kj|exact KI|exact Vt|exact De|exact KZ|exact VU|exact BO|exact Be|exact QH|exact Qt|apply Qp|exact Zz|apply X8|apply ZM|exact K7|exact XX|apply Zj|exact Xk|exact QL|exact QX|exact QY|exact Xi|exact Zo|exact Qz|exact Q5|apply JB|apply Qn|apply QE|apply QB|apply Uf|apply XD|apply XG|apply Yn|apply QT|apply Xf|apply Qu|apply QK|apply QC|apply QV|apply QP|apply Xp|apply XR|apply Z1|apply XJ|apply Yu|apply ZL|apply QG|apply XM|apply Qq|apply Q2|apply QS|apply Q7|apply Q9|apply QW|apply XW|apply X1|apply Md|apply Mf|apply Mh|apply Mg|apply Mi|apply Mj|apply Ml|apply Mm|apply Mo|apply Mp|apply Mr|apply Ms|apply Mz|apply MA|apply MJ|apply MR|apply MV|apply MW|exact Mt|apply My|apply MM|exact MN|apply MP|apply MQ)|exact Q6 rfl|apply Zp rfl QO|apply Zp rfl Zl|exact (rfl : Qg _ = true)|exact QN rfl|apply JT rfl|exact (rfl : (_ : Option _) = some _)|decide)
 have hfl : (ldL chs (hds chs ws (rng n) t)).flatten.length ≤ 100 := by rw [Bl, hhl]; exact hb
 obtain ⟨v12, s10⟩ := B7 (a0 := some (.sh (.list (iL ns)))) (a1 := some (.sh (.int (ns.getD 0 0)))) (a2 := some (.sh (.int n))) (a3 := some (.sh (.list (chD chs)))) (a4 := some (.sh (.list (chD ws)))) (a5 := some (.sh (.int i8))) (a6 := some (.sh M)) (a7 := some (.sh (.list (nD t)))) (a8 := v8) (a9 := some (.sh (.list (Qi (hds chs ws (rng n) t ++ [YG chs ws (rng n) t]))))) (a10 := some (.sh (.list (ldD (ldL chs (hds chs ws (rng n) t)))))) (a13 := none) (a14 := none) (a15 := none) (ldL chs (hds chs ws (rng n) t)) [] none (by simp only [List.length_nil]; exact Nat.le_trans (Nat.add_le_add_left hfl _) (by decide))
 rw [List.nil_append, show (ldL chs (hds chs ws (rng n) t)).flatten = Xz n chs ws t from rfl, show Qi [] = [] from rfl] at s10
 have e3 : X0 (.list (ldD (ldL chs (hds chs ws (rng n) t)))) = some (ldD (ldL chs (hds chs ws (rng n) t))) := rfl
 have f4 := Jg K (Xz n chs ws t) (by rw [YZ]; exact omB hb)
 have f5 := Ww K hm hc' ht hb
 have e4 : YB (.list (Qi (hds chs ws (rng n) t ++ [YG chs ws (rng n) t]))) none (some (-1)) = some (.ow true (.list (Qi (hds chs ws (rng n) t)))) := by
  rw [← Jp]
  exact Em _ _ (by rw [QJ]; exact Nat.le_trans (Nat.le_of_eq hhl) (Nat.le_trans ht (by decide)))
 have e5 : Jl (.int 1) = some (.sh (.int (-1))) := rfl
 have f6 := Ue K (ws := ws) hc hhr.1 (by exact Nat.le_trans (Nat.le_of_eq hhl) (Nat.le_trans ht (by decide)))
 have f7 := U7 K (L := ldL chs (hds chs ws (rng n) t)) (by rw [Ke]; exact Nat.le_trans (Nat.le_of_eq hhl) (Nat.le_trans ht (by decide))) (fun A hA => Nat.le_trans (Du hcl A hA) (by decide))
 have f8 := YL K (fmI [] (ldL chs (hds chs ws (rng n) t)))
 have lf1 := O1 (fmI [] (ldL chs (hds chs ws (rng n) t)))
 have lf2 := O1 (Yt (Xz n chs ws t))
 have hxy : fmI [] (ldL chs (hds chs ws (rng n) t)) = none ↔ Yt (Xz n chs ws t) = none := by
  rw [WS, Iw _ [] .nil]; rfl
 obtain ⟨b, k1, k2⟩ : ∃ b, isI (UZ (fmI [] (ldL chs (hds chs ws (rng n) t)))) .none = some (.sh (.bool b)) ∧ isI (UZ (Yt (Xz n chs ws t))) .none = some (.sh (.bool b)) := by
  cases hx : fmI [] (ldL chs (hds chs ws (rng n) t)) with
  | none => rw [hxy.mp hx]; exact ⟨true, rfl, rfl⟩
  | some x => cases hy : Yt (Xz n chs ws t) with
   | none => rw [hxy.mpr hy] at hx; cases hx
   | some y => exact ⟨false, rfl, rfl⟩
 have k3 : neI (.bool b) (.bool b) = some (.sh (.bool false)) := by cases b <;> kernel_rfl
 have hrl : ∀ x ∈ hds chs ws (rng n) t ++ [YG chs ws (rng n) t], Row n x := fun x hx => by
  rcases List.mem_append.mp hx with hx | hx
  ·exact hhr.1 x hx
  ·rw [List.mem_singleton.mp hx]; exact hhr.2
 obtain ⟨fs, f9, hf1, hf2⟩ := BY K hl h3 h12 hrl (HO hc.all hhr.1) (by rw [List.length_append]; simp) (by rw [List.length_append, hhl]; simp only [List.length_singleton]; lia)
 have f10 := We K (ws := ws) hc hf1 hf2
 have g3 := YW (ds := nD t) (by rw [Yp]; exact omB ht)
 have f11 := KC K hm hc' ht
 have f12 := YL K (Yt (Xz n chs ws t))
 have e6 : Xn (.list (Qi (hds chs ws (rng n) t ++ [YG chs ws (rng n) t]))) (.int 0) = some (.sh (.tup (iL (rng n)))) := by
  cases t <;> rfl
 have f13 := Zv K (ns.getD 20 0) 12 (by decide)
 have f14 := OZ K kf hm hf1 hf2 hc' ht (mix (ns.getD 20 0) 12)
 rw [hM] at f5 f6 f10 f11 f14
 clear hxy
 generalize UZ (fmI [] (ldL chs (hds chs ws (rng n) t))) = X at *
 generalize UZ (Yt (Xz n chs ws t)) = Y at *
 generalize ldD (ldL chs (hds chs ws (rng n) t)) = LD at *
 generalize Qi (Xz n chs ws t) = RO at *
 generalize Qi (hds chs ws (rng n) t ++ [YG chs ws (rng n) t]) = HL at *
 generalize Qi (hds chs ws (rng n) t) = HD at *
 unfold El HT
 refine' QU [some (.sh (.list (iL ns))), none, none, none, none, none, none, none, none, none, none, none, none, none, none, none] rfl rfl ?_ Q0
 repeat' (first|(with_reducible first|assumption|exact QO|exact Zl|exact X3|exact Wl|exact Zb|exact Yw|exact Kj|exact KI|exact Vt|exact De|exact KZ|exact VU|exact BO|exact Be|exact QH|exact Qt|apply Qp|exact Zz|apply X8|apply ZM|exact K7|exact XX|apply Zj|exact Xk|exact QL|exact QX|exact QY|exact Xi|exact Zo|exact Qz|exact Q5|apply JB|apply Qn|apply QE|apply QB|apply Uf|apply XD|apply XG|apply Yn|apply QT|apply Xf|apply Qu|apply QK|apply QC|apply QV|apply QP|apply Xp|apply XR|apply Z1|apply XJ|apply Yu|apply ZL|apply QG|apply XM|apply Qq|apply Q2|apply QS|apply Q7|apply Q9|apply QW|apply XW|apply X1|apply Md|apply Mf|apply Mh|apply Mg|apply Mi|apply Mj|apply Ml|apply Mm|apply Mo|apply Mp|apply Mr|apply Ms|apply Mz|apply MA|apply MJ|apply MR|apply MV|apply MW|exact Mt|apply My|apply MM|exact MN|apply MP|apply MQ)|exact Q6 rfl|apply Zp rfl QO|apply Zp rfl Zl|exact (rfl : Qg _ = true)|exact QN rfl|apply JT rfl|exact (rfl : (_ : Option _) = some _)|decide)
end Mine
end

section
set_option Elab.async false
set_option maxRecDepth 100000
namespace Mine
open PySem PySem.W PyProof.Rows
theorem KF_ok (P : Params) : KF10 (hd.heap_1 P) where
 row := ⟨by kernel_rfl, by kernel_rfl, by kernel_rfl, by kernel_rfl, by kernel_rfl, by kernel_rfl, by kernel_rfl, by kernel_rfl, by kernel_rfl⟩
 call := ⟨by kernel_rfl, by kernel_rfl, by kernel_rfl, by kernel_rfl, by kernel_rfl, by kernel_rfl, by kernel_rfl, by kernel_rfl, by kernel_rfl⟩
end Mine
theorem PySem.Challenge.cw_uf010040_10_holds : PySem.Challenge.rw_uf010040_10.Holds :=
 Mine.law10_enter fun P ns hl => Mine.law10_plain _ (Mine.KF_ok P) ns hl
end
