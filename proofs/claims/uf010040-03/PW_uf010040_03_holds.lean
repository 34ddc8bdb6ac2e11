import PyProof.Rows.All
import Wide.All
import OpenK.AllK
import Wide.FinOn
import PyProof.StationsW
import PyProof.Cells
import PyProof.Walks
import PyProof.WalksMore
import PyProof.RangeIter
import PyProof.Rows.Frame
import PyProof.ListIndex
import PyProof.Rules2
import PyProof.Rules3
import PyProof.PureInt
import PyProof.IsRules
import PyProof.EqLayable
import PyProof.Rows.RuleB_mul
import PyProof.Rows.RuleB_mod
import PyProof.Rows.RuleB_floordiv
import PyProof.Rows.RuleB_small
import PyProof.Rows.EqDataRows
import PyProof.NoPylong
import PyProof.RulesDelMore
import PyProof.ForAny
import PyProof.RulesAs
import PyProof.NsDelKeeps
import PyProof.SliceMore
import PyProof.Rows.TupMore
import PyProof.Rows.TupSub
import PyProof.Rows.StrTemp
import PyProof.Rows.TupAdd
import PyProof.ListIndexNeg
import PyProof.ListMulAny
import PyProof.Rows.ListMul
import PyProof.ListRange
import PyProof.TupleOfSeq
import PyProof.ListCopy
import PyProof.RangeFor
import PyProof.ConsumeWalk
import PyProof.CallStr
import PyProof.Rows.SortWalk
import PyProof.Rows.Lst
import PyProof.Rows.Range3
import PyProof.Rows.ListMade
import PyProof.ListOps
import PyProof.CallRoads
import PyProof.Rows.TupAssign
import PyProof.EnumMake
import PyProof.Draws
import PyProof.Rows.TupIter
import PyProof.CompFree
import PyProof.CompUse
import KE.KRevSl
import PyProof.P3In
import PyProof.SliceStr2
import PyProof.StrOps
import PyProof.Rows.StrWeight2
import PyProof.Rows.StrIndexOr
import PyProof.StrLoop
import PyProof.StrWalks
import PyProof.Rows.StrMadeLen
import PyProof.Rows.SortStr
import PyProof.CollectStr
import PyProof.ListStr
import PyProof.DictRoadsH
import PyProof.MeetsDict
import PyProof.DictKinds
import PyProof.FactsAll.dict_0
import PyProof.FactsAll.dict_3
import PyProof.InstStore
import KE.KRevIter
import PyProof.Conv_int_bool
import PyProof.EqAt
import PyProof.FactsAll.list_3
import PyProof.WalkInts
import PyProof.SeqI3
import PyProof.Rows.SeqJoint
import PyProof.ZipIter
import Open.Head
import PySem.Challenge.RW_uf010040_03
set_option tactic.hygienic false
set_option compiler.extract_closed false
set_option genSizeOfSpec false
set_option bootstrap.genMatcherCode false
section
open PySem PySem.W PyProof.Rows
set_option Elab.async false
set_option maxRecDepth 100000
set_option maxHeartbeats 80000000
namespace Mine
noncomputable def vw : Program := view PySem.Challenge.pw_uf010040_03 [1, 2, 3, 4, 5, 6, 7, 8, 10, 11, 12, 13, 14, 16, 17, 19, 20, 21, 23, 24, 25, 26, 27, 28, 29, 30, 31, 32, 33, 34, 35, 36, 37]
local macro_rules | `(tactic| o_head $H) => `(tactic| (refine holds_open (q := vw) (loose := []) (Xt := fun s => xlAt vw [] s && recOk [] s) (XP := XL vw []) (Yf := Hook.obs $H) (Ya := Hook.val $H) (YP := Hook.says $H) (N := 8000) ?hl (Hook.of $H) (Hook.keeps $H) (fun s e => xl_of s (Bool.and_eq_true_iff.mp e).1) XL.keeps (by rfl) (by rfl) (by rfl) (fun s e => recFacts_of (Bool.and_eq_true_iff.mp e).2) (by rfl) (by first | assumption | decide +kernel) (by decide +kernel) ⟨rfl, rfl, rfl, rfl, rfl, by decide +kernel⟩ ?hw ?hc; (case hl => (intro w; unfold openEnds topFrom; rw [PySem.W.Fast.te14082659384304107361, PySem.W.Fast.te14364793385576792824, PySem.W.Fast.te4187177175401517315]; kernel_rfl))))
local macro_rules | `(tactic| o_law) => `(tactic| refine holds_law (by decide +kernel) fun said => ?_)
open_top hd for PySem.Challenge.rw_uf010040_03
end Mine
end

section
set_option Elab.async false
set_option maxRecDepth 100000
namespace Mine
open PySem PySem.W
theorem omB {a b k : Nat} (h : a ≤ b) : a ≤ k + b := Nat.le_trans h (Nat.le_add_left _ _)
theorem omP {a b c k : Nat} (h : a + b ≤ c) : a ≤ k + c := Nat.le_trans (Nat.le_trans (Nat.le_add_right _ _) h) (Nat.le_add_left _ _)
theorem omL {a b k : Nat} (h : a < b) : a ≤ k + b := Nat.le_trans (Nat.le_of_lt h) (Nat.le_add_left _ _)
theorem omS {a b c k : Nat} (h : a + (b + 1) ≤ c) : a + 1 + b ≤ k + c := by rw [Nat.add_right_comm]; exact omB h
section
variable {prog : Program} {w : World} {A : Around} {E : Value → Shared → Prop} {h : Heap} {g : Array GenState} {d : Drawn} {t : Nat} {os : OsState} {a C : Addr} {o : Obj} {K : Frag}
theorem Ff {M : Model} {nameV : Value} {Q : Unit → Shared → Prop} (X : K.In h) (hx : h.get? a = some o) (hc : o.cls = .ref C) (hm : mroIn K C (.type "BaseException") = some true)
  (hq : Q () ⟨h, g, d, t, os⟩) : wpAny M A (checkBuiltinCall "BaseException.__getattribute__" ⟨[.ref a, nameV], []⟩) Q E ⟨h, g, d, t, os⟩ := by
 have hk : builtinKind "BaseException.__getattribute__" = some .slot := by decide +kernel
 have hsplit : splitId "BaseException.__getattribute__" = some ("BaseException", "__getattribute__") := by decide +kernel
 have ha := F.args_bexc_ga (.ref a) nameV
 have L1 := looks_mroIn (M := M) X hm
 simp only [checkBuiltinCall, hk, hsplit]
 refine wpAny_bind ?_
 unfold isInstance
 repeat (first | (with_reducible refine wpAny_loadPart_at hx ?_; rw [hc]) | (with_reducible refine L1.at ?_) | wp_step)
 exact hq
theorem GG {R : Result → Shared → Prop} {tp : Value} (X : K.In h) (hx : h.get? a = some o) (hc : o.cls = .ref C) (hm : mroIn K C (.type "object") = some true) (hn : notCls o = true) (hd : o.dict = none)
  (hq : R (.ok (.ret (.ref C))) ⟨h, g, d, t, os⟩) : codeAny (model prog w) A (.call (.builtin "getset_descriptor.__get__") ⟨[.builtin "object.__class__", .ref a, tp], []⟩) R ⟨h, g, d, t, os⟩ :=
 class_get (ox := o) (od := none) X ⟨hx, hc, hn, by rw [hd]; trivial⟩ hm hq
theorem EB {tk : Tok} {Q : Fin → Shared → Prop} (X : K.In h) (hx : h.get? a = some o) (hc : o.cls = .ref C) (hm : mroIn K C (.type "object") = some true) (hn : notCls o = true) (hd : o.dict = none)
  (hf : findObj K C none "__class__" = some (.bind (.builtin "getset_descriptor.__get__") (.builtin "object.__class__"))) (hq : Q (.done (.ret (.ref C))) ⟨h, g, d, t, os⟩) :
  wpAny (model prog w) A (Builtin.«object.__getattribute__» ⟨[.ref a, .str "__class__" tk], []⟩) Q E ⟨h, g, d, t, os⟩ := by
 have I : InstAt h a o C none := ⟨hx, hc, hn, by rw [hd]; trivial⟩
 have L0 := I.type (M := model prog w)
 have L1 := looks_find (M := model prog w) X I hf
 unfold Builtin.«object.__getattribute__»
 refine wpAny_bind (wpAny_pure ?_)
 refine wpAny_bind (m := Builtin.ObjectAttr.attrName _) (wpAny_pure ?_)
 refine wpAny_bind (L0.at (wpAny_bind (L1.at ?_)))
 show wpAny _ _ (holding [Value.builtin "object.__class__"] (call (.builtin "getset_descriptor.__get__") [.builtin "object.__class__", .ref a, .ref C]) >>= ret) _ _ _
 exact wpAny_bind (wpAny_holding (wpAny_call (GG X hx hc hm hn hd (wpAny_pure hq))))
theorem G7 {tk : Tok} {fill expr : Bool} {Q : Value → Shared → Prop} (X : K.In h) (hx : h.get? a = some o) (hc : o.cls = .ref C) (hm : mroIn K C (.type "object") = some true) (hmb : mroIn K C (.type "BaseException") = some true) (hn : notCls o = true) (hd : o.dict = none)
  (hga : findIn K (.ref C) "__getattribute__" = some (some (.builtin "BaseException.__getattribute__"))) (hgt : findIn K (.ref C) "__getattr__" = some none)
  (hf : findObj K C none "__class__" = some (.bind (.builtin "getset_descriptor.__get__") (.builtin "object.__class__"))) (hq : Q (.ref C) ⟨h, g, d, t, os⟩) :
  wpAny (model prog w) A (getAttrBy (.ref a) (.str "__class__" tk) fill expr) Q E ⟨h, g, d, t, os⟩ := by
 have I : InstAt h a o C none := ⟨hx, hc, hn, by rw [hd]; trivial⟩
 have L0 := I.type (M := model prog w)
 have L1 := looks_findIn (M := model prog w) X hga
 have L2 := looks_findIn (M := model prog w) X hgt
 have f3 := F.excAttr_ValueError.ga.bind (.ref a)
 have hx0 : (expr && onTheHeap (Value.builtin "BaseException.__getattribute__")) = false := by cases expr <;> rfl
 have hx2 : (Value.builtin "BaseException.__getattribute__" == Value.builtin "object.__getattribute__") = false := by decide +kernel
 have hx1 : (onTheHeap (Value.ref C) && Value.builtin "BaseException.__getattribute__" == Value.builtin "object.__getattribute__") = false := by rw [hx2]; rfl
 repeat (any_goals (first | assumption | (with_reducible refine L0.at ?_) | (with_reducible refine L1.at ?_) | (with_reducible refine L2.at ?_) | wp_step))
 refine codeAny_call_builtin F.excAttr_ValueError.ga.plain F.entry_bexc_ga (Ff X hx hc hmb (EB X hx hc hm hn hd hf ?_))
 show wpAny _ _ (handedOut (.ref C)) _ _ _
 exact handed_on rfl hq
set_option tactic.hygienic true in
theorem ED (hm : mroIn K C (.type "object") = some true) (hmb : mroIn K C (.type "BaseException") = some true) (hcl : (clsIn K C).isSome = true)
  (hga : findIn K (.ref C) "__getattribute__" = some (some (.builtin "BaseException.__getattribute__"))) (hgt : findIn K (.ref C) "__getattr__" = some none)
  (hf : findObj K C none "__class__" = some (.bind (.builtin "getset_descriptor.__get__") (.builtin "object.__class__"))) :
  KitX K (.ref a) (.ref C) (fun h => ∃ o, h.get? a = some o ∧ o.cls = .ref C ∧ notCls o = true ∧ o.dict = none) where
 ty := fun _ _ _ I => by obtain ⟨o, h1, h2, h3, h4⟩ := I; exact InstAt.type (od := none) ⟨h1, h2, h3, by rw [h4]; trivial⟩
 it := fun M h X _ => by
  unfold clsIn at hcl
  split at hcl
  ·rename_i ho
   intro A' Q' E' s' k q
   unfold isType loadHead
   exact wpAny_bind (wpAny_loadPart (k _ _ (X _ _ ho)) (wpAny_pure q))
  ·cases hcl
 ne := fun h tp dd its n sl X e => by
  unfold clsIn at hcl
  split at hcl
  ·rename_i ho
   refine Bool.eq_false_iff.mpr fun q => ?_
   cases beq_iff_eq.mp q
   rw [X _ _ ho] at e; cases e
  ·cases hcl
 ca := fun {prog w A E Q s} X I k => by
  obtain ⟨o, h1, h2, h3, h4⟩ := I
  obtain ⟨h, g, d, t, os⟩ := s
  unfold getAttr? getAttrBy?
  refine wpAny_bind (wpAny_mkText (wpAny_bind (wpAny_attempt ?_)))
  exact G7 X h1 h2 hm hmb h3 h4 hga hgt hf (wpAny_pure k)
noncomputable def OB (K : Frag) (C : Addr) : Bool := mroIn K C (.type "object") == some true && mroIn K C (.type "BaseException") == some true && (clsIn K C).isSome && findIn K (.ref C) "__getattribute__" == some (some (.builtin "BaseException.__getattribute__")) &&
 findIn K (.ref C) "__getattr__" == some none && (match findObj K C none "__class__" with | some (.bind g a) => g == .builtin "getset_descriptor.__get__" && a == .builtin "object.__class__" | _ => false)
set_option tactic.hygienic true in
theorem BR (e : OB K C = true) : KitX K (.ref a) (.ref C) (fun h => ∃ o, h.get? a = some o ∧ o.cls = .ref C ∧ notCls o = true ∧ o.dict = none) := by
 unfold OB at e
 simp only [Bool.and_eq_true, beq_iff_eq] at e
 obtain ⟨⟨⟨⟨⟨h1, h2⟩, h3⟩, h4⟩, h5⟩, h6⟩ := e
 refine ED h1 h2 h3 h4 h5 ?_
 split at h6
 ·rename_i gg aa hf
  rw [Bool.and_eq_true, beq_iff_eq, beq_iff_eq] at h6
  rw [hf, h6.1, h6.2]
 ·cases h6
set_option tactic.hygienic true in
theorem Vd {M : Model} {C' : Addr} {b : Bool} {Q : Bool → Shared → Prop} {s : Shared} (X : K.In s.heap) (hx : s.heap.get? a = some o) (hc : o.cls = .ref C) (hty : typeIn K (.ref C') = some (.type "type")) (hcl : (clsIn K C').isSome = true) (hbe : mroIn K C' (.type "BaseException") = some true)
  (hs : mroIn K C (.ref C') = some b) (hq : Q b s) : wpAny M A (excMatches (.ref a) (.ref C')) Q E s := by
 have L1 := looks_typeIn (M := M) X hty
 have L2 : Looks M s.heap (isSubtype (.type "type") (.type "tuple")) false := looks_subIn (K := K) X (by kernel_rfl)
 have L3 : Looks M s.heap (isType (.ref C')) true := by
  unfold clsIn at hcl
  split at hcl
  ·rename_i ho
   intro A' Q' E' s' k q
   unfold isType loadHead
   exact wpAny_bind (wpAny_loadPart (k _ _ (X _ _ ho)) (wpAny_pure q))
  ·cases hcl
 have L4 := looks_mroIn (M := M) X hbe
 have L5 : Looks M s.heap (typeOf (.ref a)) (.ref C) := by have := (Looks.ld (M := M) (part := some headPart) hx).andThen (f := fun o => pure o.cls) .now; rw [hc] at this; exact this
 have L6 := looks_mroIn (M := M) X hs
 unfold excMatches
 refine wpAny_bind ((L1.andThen (f := fun t => isSubtype t (.type "tuple")) L2).here ?_)
 simp only [Bool.false_eq_true, if_false]
 refine wpAny_bind (wpAny_pure ?_)
 rw [List.forIn_cons]
 refine wpAny_bind (wpAny_bind ?_)
 show wpAny _ _ (isExcClass (.ref C') >>= _) _ _ _
 refine wpAny_bind ?_
 unfold isExcClass
 refine wpAny_bind (L3.here ?_)
 simp only [if_true]
 refine L4.here ?_
 simp only [Bool.not_true, Bool.false_eq_true, if_false]
 refine wpAny_pure ?_
 dsimp only
 rw [List.forIn_nil]
 refine wpAny_pure (wpAny_bind (L5.here ?_))
 rw [List.forIn_cons]
 refine wpAny_bind (wpAny_bind (wpAny_bind (L6.here ?_)))
 cases b with
 | true => simp only [if_true]; exact wpAny_pure (wpAny_pure (wpAny_pure hq))
 | false => simp only [Bool.false_eq_true, if_false]; exact wpAny_pure (by dsimp only; rw [List.forIn_nil]; exact wpAny_pure (wpAny_pure hq))
end
end Mine
end

section
set_option Elab.async false
set_option maxRecDepth 100000
namespace Mine
open PySem
theorem nn {α : Type} {a : α} {P : Prop} (h : (Option.none : Option α) = Option.some a) : P := by cases h
theorem ifs {c : Prop} [Decidable c] {α : Type} {a : Option α} {t : α} (h : (if c then a else none) = some t) : c ∧ a = some t := by
 by_cases hc : c
 ·rw [if_pos hc] at h; exact ⟨hc, h⟩
 ·rw [if_neg hc] at h; exact nn h
inductive D where
 | none
 | bool (b : Bool)
 | int (i : Int)
 | str (x : Str)
 | tup (ds : List D)
 | list (ds : List D)
 | range (lo hi st : Int)
 | exc (C : Addr)
 | glob (v : Value)
 | dict (ks : List (List Int)) (ds : List D)
 | obj (C : Addr) (ns : List Str) (ds : List D)
noncomputable def asI : D → Option Int
 | .int i => some i
 | _ => none
theorem JN {x : D} {i : Int} (e : asI x = some i) : x = .int i := by
 cases x <;> first | (cases e; rfl) | exact nn e
inductive T where
 | sh (d : D)
 | ow (m : Bool) (d : D)
noncomputable def T.val : T → D
 | .sh d => d
 | .ow _ d => d
noncomputable def T.get : T → Option D
 | .sh d => some d
 | .ow _ (.list ds) => some (.list ds)
 | .ow _ _ => none
noncomputable def Hf (o : Obj) (_ : List D) : Prop := o.dict = Option.none ∧ o.slots = #[]
noncomputable def Ym (o : Obj) : Prop := ∀ es n, o.data ≠ .dict es n
theorem Ym.seq {o : Obj} {vs : Array Value} {n : Nat} (h : o.data = .seq vs n) : Ym o := fun es m q => by rw [h] at q; cases q
theorem Ym.fields {o : Obj} {vs : Array Value} (h : o.data = .fields vs) : Ym o := fun es m q => by rw [h] at q; cases q
inductive Kept (h' : Heap) (b : Addr) (o : Obj) : Prop
 | mk (sl : Array (Option Value)) (e : h'.get? b = some { o with slots := sl }) (k : Ym o → sl = o.slots) : Kept h' b o
noncomputable def Kp (h h' : Heap) : Prop := ∀ b o, h.get? b = some o → Kept h' b o
theorem Kp.trans {h₁ h₂ h₃ : Heap} (x : Kp h₁ h₂) (y : Kp h₂ h₃) : Kp h₁ h₃ := fun b o e => by
 obtain ⟨sl, e₁, q₁⟩ := x b o e
 obtain ⟨sl', e₂, q₂⟩ := y b _ e₁
 exact ⟨sl', e₂, fun hc => (q₂ hc).trans (q₁ hc)⟩
theorem Kp.of_keeps {h h' : Heap} (k : ∀ b o, h.get? b = some o → h'.get? b = some o) : Kp h h' := fun b o e => ⟨o.slots, k b o e, fun _ => rfl⟩
theorem Kp.exact {h h' : Heap} (x : Kp h h') {b : Addr} {o : Obj} (e : h.get? b = some o) (hc : Ym o) : h'.get? b = some o := by
 obtain ⟨sl, e₁, q⟩ := x b o e
 rw [q hc] at e₁; exact e₁
theorem Kp.dom {h h' : Heap} (x : Kp h h') {b : Addr} {o : Obj} (e : h.get? b = some o) : ∃ o', h'.get? b = some o' := let ⟨_, e₁, _⟩ := x b o e; ⟨_, e₁⟩
theorem Kp.ns {h h' : Heap} (x : Kp h h') {a : Addr} {m : Str → Option Value} (hn : h.Ns a m) : h'.Ns a m := by
 obtain ⟨o, es, ep, ho, hd, r⟩ := hn
 obtain ⟨sl, e₁, _⟩ := x a o ho
 exact ⟨_, es, ep, e₁, hd, r⟩
theorem Kp.cell {h h' : Heap} (x : Kp h h') {c : Addr} {v : Option Value} (hn : h.IsCell c v) : h'.IsCell c v := by
 obtain ⟨o, ho, hd⟩ := hn
 obtain ⟨sl, e₁, _⟩ := x c o ho
 exact ⟨_, e₁, hd⟩
theorem Kp.none {h h' : Heap} (x : Kp h h') {b : Addr} (e : h'.get? b = none) : h.get? b = none := by
 cases q : h.get? b with
 | none => rfl
 | some o => obtain ⟨_, e₁, _⟩ := x b o q; rw [e] at e₁; cases e₁
noncomputable def Imm (o : Obj) : Prop := (o.cls = .type "tuple" ∧ ∃ vs n, o.data = .seq vs n) ∨ ∃ vs, o.data = .fields vs
mutual
inductive RV (S : Addr → Prop) (h : Heap) : Value → D → Prop
 | none : RV S h .none .none
 | bool (b : Bool) : RV S h (.bool b) (.bool b)
 | int (i : Int) (t : Tok) : RV S h (.int i t) (.int i)
 | str (x : Str) (t : Tok) : RV S h (.str x t) (.str x)
 | tup {a : Addr} {o : Obj} {vs : Array Value} {n : Nat} {ds : List D} : h.get? a = some o → o.cls = .type "tuple" → o.data = .seq vs n → RVs S h vs.toList ds → RV S h (.ref a) (.tup ds)
 | list {a : Addr} {o : Obj} {vs : Array Value} {n : Nat} {ds : List D} : S a → h.get? a = some o → (o.cls = .type "list" ∧ Hf o ds) → o.data = .seq vs n → RVs S h vs.toList ds → RV S h (.ref a) (.list ds)
 | range {a : Addr} {lo hi st : Int} {t u v : Tok} : IsRange h a lo hi st t u v → RV S h (.ref a) (.range lo hi st)
 | exc {a : Addr} {o : Obj} {vs : Array Value} {C : Addr} : h.get? a = some o → o.cls = .ref C → o.dict = none → o.data = .fields vs → vs[2]? = some .none → RV S h (.ref a) (.exc C)
 | glob (v : Value) : (∀ a, v = .ref a → ∃ o, h.get? a = some o) → RV S h v (.glob v)
 | obj {a dx C : Addr} {m : Str → Option Value} {ns : List Str} {vs : List Value} {ds : List D} : S a → S dx → h.get? a = some (W.instObj C dx) → h.Ns dx m → (ns.map m = vs.map some ∧ ∀ y, y ∉ ns → m y = Option.none) → RVs S h vs ds → RV S h (.ref a) (.obj C ns ds)
inductive RVs (S : Addr → Prop) (h : Heap) : List Value → List D → Prop
 | nil : RVs S h [] []
 | cons {v : Value} {d : D} {vs : List Value} {ds : List D} : RV S h v d → RVs S h vs ds → RVs S h (v :: vs) (d :: ds)
end
structure Ext (S : Addr → Prop) (h : Heap) (S' : Addr → Prop) (h' : Heap) : Prop where
 sub : ∀ b, S b → S' b
 keep : ∀ b o, h.get? b = some o → (S b ∨ Imm o) → Kept h' b o
 dom : ∀ b o, h.get? b = some o → ∃ o', h'.get? b = some o'
theorem Ext.exact {S : Addr → Prop} {h : Heap} {S' : Addr → Prop} {h' : Heap} (x : Ext S h S' h') {b : Addr} {o : Obj} (e : h.get? b = some o) (q : S b ∨ Imm o) (hn : Ym o) : h'.get? b = some o := by
 obtain ⟨sl, e₁, k⟩ := x.keep b o e q
 rw [k hn] at e₁; exact e₁
theorem Ext.ns {S : Addr → Prop} {h : Heap} {S' : Addr → Prop} {h' : Heap} (x : Ext S h S' h') {a : Addr} {m : Str → Option Value} (q : S a) (hn : h.Ns a m) : h'.Ns a m := by
 obtain ⟨o, es, ep, ho, hd, r⟩ := hn
 obtain ⟨sl, e₁, _⟩ := x.keep a o ho (.inl q)
 exact ⟨_, es, ep, e₁, hd, r⟩
theorem Ext.refl (S : Addr → Prop) (h : Heap) : Ext S h S h := ⟨fun _ x => x, fun _ o e _ => ⟨o.slots, e, fun _ => rfl⟩, fun _ o e => ⟨o, e⟩⟩
theorem Ext.trans {S₁ S₂ S₃ : Addr → Prop} {h₁ h₂ h₃ : Heap} (x : Ext S₁ h₁ S₂ h₂) (y : Ext S₂ h₂ S₃ h₃) : Ext S₁ h₁ S₃ h₃ :=
 ⟨fun b q => y.sub b (x.sub b q), fun b o e q => by
  obtain ⟨sl, e₁, k₁⟩ := x.keep b o e q
  obtain ⟨sl', e₂, k₂⟩ := y.keep b _ e₁ (q.imp (x.sub b) id)
  exact ⟨sl', e₂, fun hn => (k₂ hn).trans (k₁ hn)⟩, fun b o e => let ⟨o', e'⟩ := x.dom b o e; y.dom b o' e'⟩
theorem Ext.none {S S' : Addr → Prop} {h h' : Heap} (x : Ext S h S' h') {b : Addr} (e : h'.get? b = none) : h.get? b = none := by
 cases q : h.get? b with
 | none => rfl
 | some o => obtain ⟨_, e₁⟩ := x.dom b o q; rw [e] at e₁; cases e₁
structure Carry (S : Addr → Prop) (h : Heap) (S' : Addr → Prop) (h' : Heap) : Prop where
 tup : ∀ {a : Addr} {o : Obj} {vs : Array Value} {n : Nat}, h.get? a = some o → o.cls = .type "tuple" → o.data = .seq vs n → h'.get? a = some o
 list : ∀ {a : Addr} {o : Obj} {vs : Array Value} {n : Nat}, S a → h.get? a = some o → o.cls = .type "list" → o.data = .seq vs n → S' a ∧ h'.get? a = some o
 range : ∀ {a : Addr} {lo hi st : Int} {t u v : Tok}, IsRange h a lo hi st t u v → IsRange h' a lo hi st t u v
 exc : ∀ {a : Addr} {o : Obj} {vs : Array Value} {C : Addr}, h.get? a = some o → o.cls = .ref C → o.dict = none → o.data = .fields vs → vs[2]? = some .none → RV S' h' (.ref a) (.exc C)
 dom : ∀ a o, h.get? a = some o → ∃ o', h'.get? a = some o'
 obj : ∀ {a dx C : Addr} {m : Str → Option Value}, S a → S dx → h.get? a = some (W.instObj C dx) → h.Ns dx m → S' a ∧ S' dx ∧ h'.get? a = some (W.instObj C dx) ∧ h'.Ns dx m
section
variable {S S' : Addr → Prop} {h h' : Heap}
theorem RV.map (x : Carry S h S' h') {v : Value} {d : D} (q : RV S h v d) : RV S' h' v d :=
 RV.rec (motive_1 := fun v d _ => RV S' h' v d) (motive_2 := fun vs ds _ => RVs S' h' vs ds) .none .bool .int .str (fun e hc hd _ r => .tup (x.tup e hc hd) hc hd r) (fun hs e hc hd _ r => .list (x.list hs e hc.1 hd).1 (x.list hs e hc.1 hd).2 hc hd r) (fun e => .range (x.range e)) (fun e hc hn hd r => x.exc e hc hn hd r) (fun v hv => .glob v fun a e => let ⟨o, e'⟩ := hv a e; x.dom a o e') (fun s1 s2 e n hm _ r => let ⟨t1, t2, e', n'⟩ := x.obj s1 s2 e n; .obj t1 t2 e' n' hm r) .nil (fun _ _ a b => .cons a b) q
theorem RVs.map (x : Carry S h S' h') {vs : List Value} {ds : List D} (q : RVs S h vs ds) : RVs S' h' vs ds :=
 RVs.rec (motive_1 := fun v d _ => RV S' h' v d) (motive_2 := fun vs ds _ => RVs S' h' vs ds) .none .bool .int .str (fun e hc hd _ r => .tup (x.tup e hc hd) hc hd r) (fun hs e hc hd _ r => .list (x.list hs e hc.1 hd).1 (x.list hs e hc.1 hd).2 hc hd r) (fun e => .range (x.range e)) (fun e hc hn hd r => x.exc e hc hn hd r) (fun v hv => .glob v fun a e => let ⟨o, e'⟩ := hv a e; x.dom a o e') (fun s1 s2 e n hm _ r => let ⟨t1, t2, e', n'⟩ := x.obj s1 s2 e n; .obj t1 t2 e' n' hm r) .nil (fun _ _ a b => .cons a b) q
theorem Ext.carry (x : Ext S h S' h') : Carry S h S' h' where
 tup := fun e hc hd => x.exact e (.inr (.inl ⟨hc, _, _, hd⟩)) (.seq hd)
 list := fun hs e hc hd => ⟨x.sub _ hs, x.exact e (.inl hs) (.seq hd)⟩
 range := fun e => x.exact e (.inr (.inr ⟨_, rfl⟩)) (.fields rfl)
 exc := fun e hc hn hd r => .exc (x.exact e (.inr (.inr ⟨_, hd⟩)) (.fields hd)) hc hn hd r
 dom := x.dom
 obj := fun s1 s2 e n => ⟨x.sub _ s1, x.sub _ s2, x.exact e (.inl s1) (fun es m q => by cases q), x.ns s2 n⟩
theorem RV.ext (x : Ext S h S' h') {v : Value} {d : D} (q : RV S h v d) : RV S' h' v d := q.map x.carry
theorem RVs.ext (x : Ext S h S' h') {vs : List Value} {ds : List D} (q : RVs S h vs ds) : RVs S' h' vs ds := q.map x.carry
end
theorem Ext.of_keeps {S : Addr → Prop} {h h' : Heap} (k : ∀ b o, h.get? b = some o → h'.get? b = some o) : Ext S h S h' := ⟨fun _ q => q, fun b o e _ => ⟨o.slots, k b o e, fun _ => rfl⟩, fun b o e => ⟨o, k b o e⟩⟩
theorem Ext.of_kp {S : Addr → Prop} {h h' : Heap} (k : Kp h h') : Ext S h S h' := ⟨fun _ q => q, fun b o e _ => k b o e, fun _ _ e => k.dom e⟩
theorem Ext.grow {S S' : Addr → Prop} {h : Heap} (q : ∀ b, S b → S' b) : Ext S h S' h := ⟨q, fun _ o e _ => ⟨o.slots, e, fun _ => rfl⟩, fun _ o e => ⟨o, e⟩⟩
theorem RV.live {S : Addr → Prop} {h : Heap} {v : Value} {d : D} (q : RV S h v d) : ∀ a, v = .ref a → ∃ o, h.get? a = some o := by
 intro a e
 cases q with
 | tup q _ _ _ => cases e; exact ⟨_, q⟩
 | list _ q _ _ _ => cases e; exact ⟨_, q⟩
 | range q => cases e; exact ⟨_, q⟩
 | exc q _ _ _ _ => cases e; exact ⟨_, q⟩
 | glob v q => exact q a e
 | obj _ _ q _ _ _ => cases e; exact ⟨_, q⟩
 | _ => cases e
theorem RVs.length {S : Addr → Prop} {h : Heap} {vs : List Value} : ∀ {ds : List D}, RVs S h vs ds → vs.length = ds.length := by
 induction vs with
 | nil => intro ds q; cases q; rfl
 | cons v vs ih => intro ds q; cases q with | cons _ r => exact congrArg (· + 1) (ih r)
theorem RVs.append {S : Addr → Prop} {h : Heap} {ws : List Value} {es : List D} (k : RVs S h ws es) {vs : List Value} : ∀ {ds : List D}, RVs S h vs ds → RVs S h (vs ++ ws) (ds ++ es) := by
 induction vs with
 | nil => intro ds q; cases q; exact k
 | cons v vs ih => intro ds q; cases q with | cons q r => exact .cons q (ih r)
theorem RVs.get {S : Addr → Prop} {h : Heap} {vs : List Value} : ∀ {ds : List D}, RVs S h vs ds → ∀ {k : Nat} {d : D}, ds[k]? = some d → ∃ v, vs[k]? = some v ∧ RV S h v d := by
 induction vs with
 | nil => intro ds q k d e; cases q; cases e
 | cons v vs ih =>
  intro ds q k d e
  cases q with
  | cons q r =>
   cases k with
   | zero => cases e; exact ⟨v, rfl, q⟩
   | succ k => exact ih r e
theorem RVs.drop {S : Addr → Prop} {h : Heap} {vs : List Value} : ∀ {ds : List D}, RVs S h vs ds → ∀ (k : Nat), RVs S h (vs.drop k) (ds.drop k) := by
 induction vs with
 | nil => intro ds q k; cases q; rw [List.drop_nil, List.drop_nil]; exact .nil
 | cons v vs ih =>
  intro ds q k
  cases q with
  | cons q r =>
   cases k with
   | zero => exact .cons q r
   | succ k => exact ih r k
theorem RVs.take {S : Addr → Prop} {h : Heap} {vs : List Value} : ∀ {ds : List D}, RVs S h vs ds → ∀ (k : Nat), RVs S h (vs.take k) (ds.take k) := by
 induction vs with
 | nil => intro ds q k; cases q; rw [List.take_nil, List.take_nil]; exact .nil
 | cons v vs ih =>
  intro ds q k
  cases q with
  | cons q r =>
   cases k with
   | zero => exact .nil
   | succ k => exact .cons q (ih r k)
theorem RVs.set {S : Addr → Prop} {h : Heap} {w : Value} {e : D} (k : RV S h w e) {vs : List Value} : ∀ {ds : List D}, RVs S h vs ds → ∀ (i : Nat), RVs S h (vs.set i w) (ds.set i e) := by
 induction vs with
 | nil => intro ds q i; cases q; exact .nil
 | cons v vs ih =>
  intro ds q i
  cases q with
  | cons q r =>
   cases i with
   | zero => exact .cons k r
   | succ i => exact .cons q (ih r i)
theorem RVs.eraseIdx {S : Addr → Prop} {h : Heap} {vs : List Value} : ∀ {ds : List D}, RVs S h vs ds → ∀ (i : Nat), RVs S h (vs.eraseIdx i) (ds.eraseIdx i) := by
 induction vs with
 | nil => intro ds q i; cases q; exact .nil
 | cons v vs ih =>
  intro ds q i
  cases q with
  | cons q r =>
   cases i with
   | zero => exact r
   | succ i => exact .cons q (ih r i)
theorem RVs.mem {S : Addr → Prop} {h : Heap} {vs : List Value} : ∀ {ds : List D}, RVs S h vs ds → ∀ {v : Value}, v ∈ vs → ∃ d, d ∈ ds ∧ RV S h v d := by
 induction vs with
 | nil => intro ds q v m; cases m
 | cons w vs ih =>
  intro ds q v m
  cases q with
  | cons q r =>
   rcases List.mem_cons.mp m with e | m
   ·subst e; exact ⟨_, .head _, q⟩
   ·obtain ⟨d, hd, q⟩ := ih r m; exact ⟨d, .tail _ hd, q⟩
noncomputable def Var (env : Env) (h : Heap) (x : Str) (v : Value) : Prop :=
 (env.kindOf x = some .local ∧ ∃ m, h.Ns env.locals m ∧ m x = some v) ∨
 ((env.kindOf x = some .cell ∨ env.kindOf x = some .free) ∧ ∃ c, env.cells.lookup x = some c ∧ h.IsCell c (some v))
theorem Var.kp {env : Env} {h h' : Heap} (k : Kp h h') {x : Str} {v : Value} (q : Var env h x v) : Var env h' x v := by
 rcases q with ⟨a, m, b, c⟩ | ⟨a, c, b, d⟩
 ·exact .inl ⟨a, m, k.ns b, c⟩
 ·exact .inr ⟨a, c, b, k.cell d⟩
theorem IsCell.inj {h : Heap} {c : Addr} {v v' : Option Value} (a : h.IsCell c v) (b : h.IsCell c v') : v = v' := by
 obtain ⟨o, ho, hd⟩ := a
 obtain ⟨o', ho', hd'⟩ := b
 rw [ho] at ho'; cases ho'
 rw [hd] at hd'; cases hd'; rfl
theorem Var.inj {env : Env} {h : Heap} {x : Str} {v v' : Value} (a : Var env h x v) (b : Var env h x v') : v = v' := by
 rcases a with ⟨k, m, n, e⟩ | ⟨k, c, n, e⟩ <;> rcases b with ⟨k', m', n', e'⟩ | ⟨k', c', n', e'⟩
 ·have := n.agree n' x; rw [e, e'] at this; injection this
 ·rw [k] at k'; rcases k' with q | q <;> cases q
 ·rw [k'] at k; rcases k with q | q <;> cases q
 ·rw [n] at n'; cases n'; have := IsCell.inj e e'; injection this
noncomputable def X2 (S : Addr → Prop) (h : Heap) (a : Addr) : D → Prop
 | .list ds => ∃ vs n, h.get? a = some { cls := .type "list", data := .seq vs n } ∧ RVs S h vs.toList ds
 | _ => False
theorem X2.ext {S S' : Addr → Prop} {h h' : Heap} {a : Addr} {d : D} (x : Ext S h S' h') (k : ∀ o, h.get? a = some o → h'.get? a = some o) (q : X2 S h a d) : X2 S' h' a d := by
 unfold X2 at q ⊢
 split at q
 ·obtain ⟨vs, n, e, r⟩ := q; exact ⟨vs, n, k _ e, r.ext x⟩
 ·exact q
theorem X2.cls {S : Addr → Prop} {h : Heap} {a : Addr} {d : D} (q : X2 S h a d) : ∃ o, h.get? a = some o ∧ o.cls = .type "list" ∧ (∃ vs n, o.data = .seq vs n) := by
 unfold X2 at q
 split at q
 ·obtain ⟨vs, n, e, _⟩ := q; exact ⟨_, e, rfl, vs, n, rfl⟩
 ·exact q.elim
noncomputable def Hi (k : List Int) : D := .tup (k.map .int)
noncomputable def FO (k : List Int) : Int := reduceHash (Builtin.Tuple.tupleHashOf (k.map hashInt))
noncomputable def Hk (x : List Int × Addr × Value) : DictEntry := ⟨FO x.1, .ref x.2.1, x.2.2⟩
inductive DictAt (S : Addr → Prop) (h : Heap) (a : Addr) (ks : List (List Int)) (ds : List D) : Prop
 | mk (o : Obj) (es : Array DictEntry) (n : Nat) (xs : List (List Int × Addr × Value)) (e : h.get? a = some o) (hc : o.cls = .type "dict" ∧ o.dict = none) (hd : o.data = .dict es n) (he : es.toList = xs.map Hk) (hk : xs.map (·.1) = ks) (nd : ks.Nodup) (hr : ∀ x ∈ xs, RV S h (.ref x.2.1) (Hi x.1)) (rv : RVs S h (xs.map (·.2.2)) ds) (hm : (a == sysModules) = false) : DictAt S h a ks ds
theorem DictAt.map {S S' : Addr → Prop} {h h' : Heap} {a : Addr} {ks : List (List Int)} {ds : List D} (x : Carry S h S' h') (k : ∀ o, h.get? a = some o → ∃ sl, h'.get? a = some { o with slots := sl }) (q : DictAt S h a ks ds) : DictAt S' h' a ks ds := by
 obtain ⟨o, es, n, xs, e, hc, hd, he, hk, nd, hr, rv, hm⟩ := q
 obtain ⟨sl, e'⟩ := k o e
 exact ⟨_, es, n, xs, e', hc, hd, he, hk, nd, fun y hy => (hr y hy).map x, rv.map x, hm⟩
noncomputable def UB (S : Addr → Prop) (h : Heap) (a : Addr) : D → Prop
 | .dict ks ds => DictAt S h a ks ds
 | d => X2 S h a d
theorem X2.map {S S' : Addr → Prop} {h h' : Heap} {a : Addr} {d : D} (x : Carry S h S' h') (k : ∀ o, h.get? a = some o → Ym o → h'.get? a = some o) (q : X2 S h a d) : X2 S' h' a d := by
 unfold X2 at q ⊢
 split at q
 ·obtain ⟨vs, n, e, r⟩ := q; exact ⟨vs, n, k _ e (.seq rfl), r.map x⟩
 ·exact q
theorem X2.v {S : Addr → Prop} {h : Heap} {a : Addr} {d : D} (q : X2 S h a d) : UB S h a d := by
 cases d <;> first | exact q | exact q.elim
theorem UB.cases {S : Addr → Prop} {h : Heap} {a : Addr} {d : D} (q : UB S h a d) : X2 S h a d ∨ ∃ ks ds, d = .dict ks ds ∧ DictAt S h a ks ds := by
 cases d <;> first | exact .inl q | exact .inr ⟨_, _, rfl, q⟩
theorem UB.map {S S' : Addr → Prop} {h h' : Heap} {a : Addr} {d : D} (x : Carry S h S' h') (k : ∀ o, h.get? a = some o → (∃ vs n, o.data = .seq vs n) ∨ (∃ es n, o.data = .dict es n) → Kept h' a o) (q : UB S h a d) : UB S' h' a d := by
 rcases q.cases with q | ⟨ks, ds, rfl, q⟩
 ·refine (q.map x fun o e hn => ?_).v
  obtain ⟨o', e', _, vs, n, hd⟩ := q.cls
  rw [e] at e'; cases e'
  obtain ⟨sl, e₁, hs⟩ := k o e (.inl ⟨vs, n, hd⟩)
  rw [hs hn] at e₁; exact e₁
 ·refine DictAt.map x (fun o e => ?_) q
  obtain ⟨o', es, n, xs, e', hc, hd, _⟩ := q
  rw [e] at e'; cases e'
  obtain ⟨sl, e₁, _⟩ := k o e (.inr ⟨es, n, hd⟩)
  exact ⟨sl, e₁⟩
theorem UB.ext {S S' : Addr → Prop} {h h' : Heap} {a : Addr} {d : D} (x : Ext S h S' h') (k : ∀ o, h.get? a = some o → Kept h' a o) (q : UB S h a d) : UB S' h' a d := q.map x.carry fun o e _ => k o e
theorem UB.live {S : Addr → Prop} {h : Heap} {a : Addr} {d : D} (q : UB S h a d) : ∃ o, h.get? a = some o ∧ ((∃ vs n, o.data = .seq vs n) ∨ ∃ es n, o.data = .dict es n) := by
 rcases q.cases with q | ⟨ks, ds, rfl, q⟩
 ·obtain ⟨o, e, _, vs, n, hd⟩ := q.cls; exact ⟨o, e, .inl ⟨vs, n, hd⟩⟩
 ·obtain ⟨o, es, n, _, e, _, hd, _⟩ := q; exact ⟨o, e, .inr ⟨es, n, hd⟩⟩
inductive OwnVar (h₀ : Heap) (S : Addr → Prop) (h : Heap) (v : Value) (m : Bool) (d : D) : Prop
 | mk (a : Addr) (e : v = .ref a) (n : ¬ S a) (o : UB S h a d) (w : m = true → h₀.get? a = none) : OwnVar h₀ S h v m d
noncomputable def Dz (h₀ : Heap) (S : Addr → Prop) (h : Heap) (v : Value) : T → Prop
 | .sh d => RV S h v d
 | .ow m d => OwnVar h₀ S h v m d
inductive FrameAt (B h : Heap) (env : Env) : Prop
 | mk (p : env.scope.kind ≠ .module) (L : Addr) (o : Obj) (f : env.frame = some L) (b : B.get? L = none) (e : h.get? L = some o) (es : Array DictEntry) (n : Nat) (d : o.data = .dict es n) : FrameAt B h env
noncomputable def FF (B h : Heap) (fs : List Env) : Prop := ∀ env ∈ fs, FrameAt B h env
theorem FF.kp {B h h' : Heap} {fs : List Env} (k : Kp h h') (x : FF B h fs) : FF B h' fs := fun env he => by
 obtain ⟨a, L, o, b, c, d, es, n, e⟩ := x env he
 obtain ⟨sl, e₁, _⟩ := k L o d
 exact ⟨a, L, _, b, c, e₁, es, n, e⟩
theorem FF.fun {B h : Heap} : ∀ {fs : List Env}, FF B h fs → h.FunFrames B fs
 | [], _ => trivial
 | env :: fs, x => by
  obtain ⟨a, L, o, b, c, d, es, n, f⟩ := x env (.head _)
  exact ⟨a, ⟨L, o, b, c, d, fun vs q => by rw [f] at q; cases q⟩, FF.fun fun e he => x e (.tail _ he)⟩
structure Gd where
 prog : Program
 w : World
 B : Heap
 mg : Str → Option Value
 mb : Str → Option Value
 K : W.Frag
 quiet : Bool := true
structure Gd.Ok (G : Gd) : Prop where
 g : G.B.Ns mainGlobals G.mg
 b : G.B.Ns builtinsNs G.mb
 nolimit : G.B.NoLimit
 K : G.K.In G.B
abbrev Gd.M (G : Gd) : Model := model G.prog G.w
structure Cx where
 A : Around
 env : Env
 fs : List Env
 h₀ : Heap
 P : Addr → Prop
noncomputable def Qg (sc : Scope) : List Str := (sc.names.filter fun x => x.2 == .local || x.2 == .cell || x.2 == .free).map (·.1)
abbrev AEnv := List (Option T)
noncomputable def Xn (x : Str) : Bool := x == "_law_e"
noncomputable def DOK (cx : Cx) (sc : Scope) (ρ : AEnv) (h : Heap) : Prop := ∀ (i : Nat) (x : Str) (m : Bool) (ks : List (List Int)) (ds : List D), (Qg sc)[i]? = some x → ρ[i]? = some (some (.ow m (.dict ks ds))) → ¬ Var cx.env h x (.ref cx.env.locals)
theorem DOK.back {cx : Cx} {sc : Scope} {ρ : AEnv} {h h' : Heap} (q : DOK cx sc ρ h) (k : ∀ x v, Var cx.env h' x v → Var cx.env h x v) : DOK cx sc ρ h' := fun i x m ks ds hx hi hv => q i x m ks ds hx hi (k _ _ hv)
theorem DOK.sub {cx : Cx} {sc : Scope} {ρ ρ' : AEnv} {h : Heap} (q : DOK cx sc ρ h) (k : ∀ (i : Nat) m ks ds, ρ'[i]? = some (some (.ow m (.dict ks ds))) → ∃ m' ks' ds', ρ[i]? = some (some (.ow m' (.dict ks' ds')))) : DOK cx sc ρ' h := fun i x m ks ds hx hi => let ⟨m', ks', ds', e⟩ := k i m ks ds hi; q i x m' ks' ds' hx e
theorem Vy {ρ : AEnv} {i j : Nat} {t u : T} (e : (ρ.set i (some t))[j]? = some (some u)) (h : u ≠ t) : ρ[j]? = some (some u) := by
 by_cases hij : i = j
 ·subst hij
  by_cases hl : i < ρ.length
  ·rw [List.getElem?_set_self hl] at e; cases e; exact absurd rfl h
  ·rw [List.getElem?_eq_none (by rw [List.length_set]; exact Nat.le_of_not_lt hl)] at e; cases e
 ·rw [List.getElem?_set_ne hij] at e; exact e
theorem DOK.set {cx : Cx} {sc : Scope} {ρ : AEnv} {h : Heap} {i : Nat} {t : T} (q : DOK cx sc ρ h) (ht : ∀ m ks ds, t ≠ .ow m (.dict ks ds)) : DOK cx sc (ρ.set i (some t)) h := q.sub fun j m ks ds e => ⟨m, ks, ds, Vy e fun q => ht m ks ds q.symm⟩
structure Rel (G : Gd) (cx : Cx) (sc : Scope) (ρ : AEnv) (S : Addr → Prop) (h : Heap) : Prop where
 base : G.B.StaysIn h
 keep : Kp cx.h₀ h
 ff : FF G.B h cx.fs
 ns : ∃ m, h.Ns cx.env.locals m
 cells : ∀ x c, cx.env.cells.lookup x = some c → ∃ v, h.IsCell c v
 sdom : ∀ b, S b → ∃ o, h.get? b = some o
 sok : ∀ b, S b → cx.P b ∨ cx.h₀.get? b = none
 sloc : ¬ S cx.env.locals
 scell : ∀ x c, cx.env.cells.lookup x = some c → ¬ S c
 live : ∀ x a, Xn x = false → Var cx.env h x (.ref a) → ∃ o, h.get? a = some o
 clean : ∀ (i : Nat) (x : Str) (m : Bool) (d : D), (Qg sc)[i]? = some x → ρ[i]? = some (some (.ow m d)) → Xn x = false
 hok : ∀ v, cx.A.handled = some v → ∃ C, RV S h v (.exc C)
 vars : ∀ (i : Nat) (x : Str) (t : T), (Qg sc)[i]? = some x → ρ[i]? = some (some t) → ∃ v, Var cx.env h x v ∧ Dz cx.h₀ S h v t
 inj : ∀ (i j : Nat) (x y : Str) (m m' : Bool) (d d' : D) (v : Value), (Qg sc)[i]? = some x → (Qg sc)[j]? = some y → ρ[i]? = some (some (.ow m d)) → ρ[j]? = some (some (.ow m' d')) → Var cx.env h x v → Var cx.env h y v → i = j
 dok : DOK cx sc ρ h
noncomputable def QA (env : Env) (h h' : Heap) : Prop := ∀ x v, Var env h x v → Var env h' x v
theorem QA.refl (env : Env) (h : Heap) : QA env h h := fun _ _ q => q
theorem QA.trans {env : Env} {h₁ h₂ h₃ : Heap} (a : QA env h₁ h₂) (b : QA env h₂ h₃) : QA env h₁ h₃ := fun x v q => b x v (a x v q)
section
variable {G : Gd} {cx : Cx} {sc : Scope} {ρ : AEnv} {S S' : Addr → Prop} {h h' : Heap}
theorem Rel.ext_kp (_ : Rel G cx sc ρ S h) (k : Kp h h') : Ext S h S h' := Ext.of_kp k
theorem Dz.ext {h₀ : Heap} {v : Value} {t : T} (x : Ext S h S h') (k : Kp h h') (q : Dz h₀ S h v t) : Dz h₀ S h' v t := by
 cases t with
 | sh d => exact RV.ext x q
 | ow m d =>
  obtain ⟨a, e, ns, ow, n⟩ := q
  exact ⟨a, e, ns, ow.ext x fun o e' => k a o e', n⟩
theorem Var.of_kp {env : Env} (k : Kp h h') (ns : ∃ m, h.Ns env.locals m) (cl : ∀ x c, env.cells.lookup x = some c → ∃ v, h.IsCell c v) {x : Str} {v : Value} (q : Var env h' x v) : Var env h x v := by
 rcases q with ⟨a, m, b, c⟩ | ⟨a, c, b, d⟩
 ·obtain ⟨m₀, n₀⟩ := ns
  exact .inl ⟨a, m₀, n₀, by rw [(k.ns n₀).agree b x]; exact c⟩
 ·obtain ⟨v₀, i₀⟩ := cl x c b
  exact .inr ⟨a, c, b, by rw [IsCell.inj d (k.cell i₀)]; exact i₀⟩
theorem Rel.kp (r : Rel G cx sc ρ S h) (k : Kp h h') (hb : G.B.StaysIn h') : Rel G cx sc ρ S h' where
 base := hb
 keep := r.keep.trans k
 ff := r.ff.kp k
 ns := let ⟨m, n⟩ := r.ns; ⟨m, k.ns n⟩
 cells := fun x c e => let ⟨v, n⟩ := r.cells x c e; ⟨v, k.cell n⟩
 sdom := fun b q => let ⟨_, e⟩ := r.sdom b q; k.dom e
 sok := r.sok
 sloc := r.sloc
 scell := r.scell
 live := fun x a hd q => let ⟨_, e⟩ := r.live x a hd (Var.of_kp k r.ns r.cells q); k.dom e
 clean := r.clean
 hok := fun v q => let ⟨C, e⟩ := r.hok v q; ⟨C, e.ext (r.ext_kp k)⟩
 vars := fun i x t hx ht => by
  obtain ⟨v, hv, tv⟩ := r.vars i x t hx ht
  exact ⟨v, hv.kp k, tv.ext (r.ext_kp k) k⟩
 inj := fun i j x y m m' d d' v hx hy hi hj a b => r.inj i j x y m m' d d' v hx hy hi hj (Var.of_kp k r.ns r.cells a) (Var.of_kp k r.ns r.cells b)
 dok := r.dok.back fun _ _ q => Var.of_kp k r.ns r.cells q
theorem Rel.same (r : Rel G cx sc ρ S h) (k : Kp h h') : QA cx.env h h' := fun _ _ q => q.kp k
theorem Rel.keeps (r : Rel G cx sc ρ S h) (k : ∀ b o, h.get? b = some o → h'.get? b = some o) : Rel G cx sc ρ S h' := r.kp (.of_keeps k) fun b o e => k b o (r.base b o e)
theorem Rel.notCell (r : Rel G cx sc ρ S h) {a : Addr} {o : Obj} (e : h.get? a = some o) (hd : ∀ v, o.data ≠ .cell v) : ∀ x c, cx.env.cells.lookup x = some c → c ≠ a := by
 rintro x c q rfl
 obtain ⟨v, o', e', hd'⟩ := r.cells x c q
 rw [e] at e'; cases e'; exact hd v hd'
theorem Rel.grow (r : Rel G cx sc ρ S h) {a : Addr} {o : Obj} (e : h.get? a = some o) (hn : cx.h₀.get? a = none) (hl : a ≠ cx.env.locals) (hcl : ∀ x c, cx.env.cells.lookup x = some c → c ≠ a) (hv : ∀ x, Xn x = false → ¬ Var cx.env h x (.ref a)) : Rel G cx sc ρ (fun b => S b ∨ b = a) h where
 base := r.base
 keep := r.keep
 ff := r.ff
 ns := r.ns
 cells := r.cells
 sdom := fun b q => q.elim (r.sdom b) fun q => ⟨o, by rw [q]; exact e⟩
 sok := fun b q => q.elim (r.sok b) fun q => .inr (by rw [q]; exact hn)
 sloc := fun q => q.elim r.sloc fun q => hl q.symm
 scell := fun x c e q => q.elim (r.scell x c e) (hcl x c e)
 live := r.live
 clean := r.clean
 hok := fun v q => let ⟨C, e⟩ := r.hok v q; ⟨C, e.ext (Ext.grow fun _ q => .inl q)⟩
 vars := fun i x t hx ht => by
  obtain ⟨v, hv', tv⟩ := r.vars i x t hx ht
  refine ⟨v, hv', ?_⟩
  cases t with
  | sh d => exact RV.ext (Ext.grow fun _ q => .inl q) tv
  | ow m d =>
   obtain ⟨b, rfl, ns, ow, n⟩ := tv
   exact ⟨b, rfl, fun q => q.elim ns fun q => hv x (r.clean i x m d hx ht) (q ▸ hv'), ow.ext (Ext.grow fun _ q => .inl q) (fun o e => ⟨o.slots, e, fun _ => rfl⟩), n⟩
 inj := r.inj
 dok := r.dok
end
inductive Res (α : Type) where
 | ok (a : α) (ρ : AEnv)
 | exc (C : Addr) (ρ : AEnv)
 | stuck
noncomputable def Res.bind {α β : Type} (r : Res α) (g : α → AEnv → Res β) : Res β := match r with
 | .ok a ρ => g a ρ
 | .exc C ρ => .exc C ρ
 | .stuck => .stuck
noncomputable def ob {α β : Type} (o : Option α) (k : α → Res β) : Res β := o.elim .stuck k
inductive Fly (h h' : Heap) (e C : Addr) : Prop
 | mk (n : h.get? e = none) (oe : Obj) (vs : Array Value) (a : h'.get? e = some oe) (b : oe.cls = .ref C) (b' : oe.dict = none) (c : oe.data = .fields vs) (d : vs[2]? = some .none)
  (k : vs[1]? = some .none ∨ ∃ T oT ts, vs[1]? = some (.ref T) ∧ T ≠ e ∧ h.get? T = none ∧ h'.get? T = some oT ∧ oT.cls = .type "traceback" ∧ oT.data = .fields ts ∧ 3 < ts.size) : Fly h h' e C
theorem Fly.back {S S' : Addr → Prop} {h₀ h h' : Heap} {e C : Addr} (x : Ext S h₀ S' h) (q : Fly h h' e C) : Fly h₀ h' e C := by
 obtain ⟨n, oe, vs, a, b, b', c, d, k⟩ := q
 refine ⟨x.none n, oe, vs, a, b, b', c, d, k.imp id ?_⟩
 rintro ⟨T, oT, ts, k1, k2, k3, k4⟩
 exact ⟨T, oT, ts, k1, k2, x.none k3, k4⟩
noncomputable def Out (G : Gd) (cx : Cx) (sc : Scope) (same : Bool) {α β : Type} (S : Addr → Prop) (s : Shared) (J : (Addr → Prop) → Heap → α → β → Prop) (Q : α → Shared → Prop) (E : Value → Shared → Prop) : Res β → Prop
 | .ok b ρ => ∀ a h' tk S', Rel G cx sc ρ S' h' → J S' h' a b → Ext S s.heap S' h' → (same = true → QA cx.env s.heap h') → Q a { s with heap := h', toks := tk }
 | .exc C ρ => ∀ e h' tk S', Rel G cx sc ρ S' h' → Fly s.heap h' e C → Ext S s.heap S' h' → E (.ref e) { s with heap := h', toks := tk }
 | .stuck => False
noncomputable def Qx (G : Gd) (cx : Cx) (sc : Scope) (same : Bool) {α β : Type} (m : Sem α) (S : Addr → Prop) (s : Shared) (J : (Addr → Prop) → Heap → α → β → Prop) (r : Res β) : Prop :=
 ∀ Q E, Out G cx sc same S s J Q E r → wpAny G.M cx.A m Q E s
section
variable {G : Gd} {cx : Cx} {sc : Scope} {same : Bool} {α β γ δ : Type} {S : Addr → Prop} {s : Shared}
theorem Qx.bind {m : Sem α} {k : α → Sem γ} {J : (Addr → Prop) → Heap → α → β → Prop} {J' : (Addr → Prop) → Heap → γ → δ → Prop} {r : Res β} {g : β → AEnv → Res δ}
  (h1 : Qx G cx sc same m S s J r)
  (h2 : ∀ b ρ' a h' tk S', r = .ok b ρ' → Rel G cx sc ρ' S' h' → J S' h' a b → Ext S s.heap S' h' → (same = true → QA cx.env s.heap h') → Qx G cx sc same (k a) S' { s with heap := h', toks := tk } J' (g b ρ')) :
  Qx G cx sc same (m >>= k) S s J' (r.bind g) := by
 intro Q E out
 refine wpAny_bind (h1 _ _ ?_)
 cases r with
 | stuck => exact out
 | exc C ρ => intro e h' tk S' rel fly x; exact out e h' tk S' rel fly x
 | ok b ρ =>
  intro a h' tk S' rel j x v
  refine h2 b ρ a h' tk S' rfl rel j x v _ _ ?_
  show Out G cx sc same S' _ J' Q E (g b ρ)
  cases hg : g b ρ with
  | stuck => rw [Res.bind, hg] at out; exact out
  | exc C ρ' =>
   rw [Res.bind, hg] at out
   intro e h₂ tk₂ S₂ rel₂ fly₂ x₂
   exact out e h₂ tk₂ S₂ rel₂ (fly₂.back x) (x.trans x₂)
  | ok c ρ' =>
   rw [Res.bind, hg] at out
   intro a₂ h₂ tk₂ S₂ rel₂ j₂ x₂ v₂
   exact out a₂ h₂ tk₂ S₂ rel₂ j₂ (x.trans x₂) fun q => (v q).trans (v₂ q)
theorem Qx.pure {a : α} {b : β} {ρ : AEnv} {J : (Addr → Prop) → Heap → α → β → Prop} (rel : Rel G cx sc ρ S s.heap) (j : J S s.heap a b) : Qx G cx sc same (pure a) S s J (.ok b ρ) :=
 fun _ _ out => wpAny_pure (out a s.heap s.toks S rel j (Ext.refl ..) fun _ => QA.refl _ _)
theorem Qx.loose {m : Sem α} {J : (Addr → Prop) → Heap → α → β → Prop} {r : Res β} (h : Qx G cx sc true m S s J r) : Qx G cx sc same m S s J r := by
 intro Q E out
 refine h Q E ?_
 cases r with
 | stuck => exact out
 | exc C ρ => exact out
 | ok b ρ => intro a h' tk S' rel j x v; exact out a h' tk S' rel j x fun _ => v rfl
theorem Qx.standAt {k : Sem α} {pos : Pos} {J : (Addr → Prop) → Heap → α → β → Prop} {r : Res β} (h : Qx G cx sc same k S s J r) : Qx G cx sc same (do standAt pos; k) S s J r :=
 fun Q E out => wpAny_bind (wpAny_standAt (h Q E out))
theorem Qx.holding {k : Sem α} {vs : List Value} {J : (Addr → Prop) → Heap → α → β → Prop} {r : Res β} (h : Qx G cx sc same k S s J r) : Qx G cx sc same (holding vs k) S s J r :=
 fun Q E out => wpAny_holding (h Q E out)
end
section
variable {G : Gd} {cx : Cx} {sc : Scope} {same same₁ : Bool} {α β γ δ : Type} {S S₁ : Addr → Prop} {s : Shared} {h₁ : Heap} {t₁ : Nat} {Q : γ → Shared → Prop} {E : Value → Shared → Prop}
theorem Out.step {J : (Addr → Prop) → Heap → α → β → Prop} {J' : (Addr → Prop) → Heap → γ → δ → Prop} {Q₁ : α → Shared → Prop} {r : Res β} {g : β → AEnv → Res δ} (out : Out G cx sc same S s J' Q E (r.bind g)) (x : Ext S s.heap S₁ h₁)
  (H : ∀ b ρ, Out G cx sc same S s J' Q E (g b ρ) → ∀ a h' tk S', Rel G cx sc ρ S' h' → J S' h' a b → Ext S₁ h₁ S' h' → (same₁ = true → QA cx.env h₁ h') → Q₁ a { s with heap := h', toks := tk }) :
  Out G cx sc same₁ S₁ { s with heap := h₁, toks := t₁ } J Q₁ E r := by
 cases r with
 | stuck => exact out
 | exc C ρ => exact fun e h' tk S' r' f' x' => out e h' tk S' r' (f'.back x) (x.trans x')
 | ok b ρ => exact H b ρ out
theorem Out.step0 {J : (Addr → Prop) → Heap → α → β → Prop} {J' : (Addr → Prop) → Heap → γ → δ → Prop} {Q₁ : α → Shared → Prop} {r : Res β} {g : β → AEnv → Res δ} (out : Out G cx sc same S s J' Q E (r.bind g))
  (H : ∀ b ρ, Out G cx sc same S s J' Q E (g b ρ) → ∀ a h' tk S', Rel G cx sc ρ S' h' → J S' h' a b → Ext S s.heap S' h' → (same₁ = true → QA cx.env s.heap h') → Q₁ a { s with heap := h', toks := tk }) : Out G cx sc same₁ S s J Q₁ E r := by
 cases r with
 | stuck => exact out
 | exc C ρ => exact out
 | ok b ρ => exact H b ρ out
theorem Out.step0S {J' : (Addr → Prop) → Heap → γ → δ → Prop} {Q₁ : Value → Shared → Prop} {r : Res T} {g : T → AEnv → Res δ} (out : Out G cx sc same S s J' Q E (r.bind g))
  (H : ∀ b ρ, Out G cx sc same S s J' Q E (g b ρ) → ∀ a h' tk S', Rel G cx sc ρ S' h' → RV S' h' a b.val → Ext S s.heap S' h' → (same₁ = true → QA cx.env s.heap h') → Q₁ a { s with heap := h', toks := tk }) :
  Out G cx sc same₁ S s (fun S' h' v d => RV S' h' v d) Q₁ E (r.bind fun t ρ => .ok t.val ρ) := by
 cases r with
 | stuck => exact out
 | exc C ρ => exact out
 | ok b ρ => exact H b ρ out
theorem Out.ob {J : (Addr → Prop) → Heap → γ → δ → Prop} {o : Option α} {k : α → Res δ} (out : Out G cx sc same S s J Q E (ob o k)) : ∃ a, o = some a ∧ Out G cx sc same S s J Q E (k a) := by
 cases o with
 | none => exact out.elim
 | some a => exact ⟨a, rfl, out⟩
theorem Qx.ob {J : (Addr → Prop) → Heap → γ → δ → Prop} {m : Sem γ} {o : Option α} {k : α → Res δ} (h : ∀ a, o = some a → Qx G cx sc same m S s J (k a)) : Qx G cx sc same m S s J (ob o k) := fun Q E out => let ⟨a, e, out⟩ := out.ob; h a e Q E out
theorem Out.when {J : (Addr → Prop) → Heap → γ → δ → Prop} {c : Prop} [Decidable c] {r : Res δ} (out : Out G cx sc same S s J Q E (if c then r else .stuck)) : c ∧ Out G cx sc same S s J Q E r := by
 by_cases h : c
 ·rw [if_pos h] at out; exact ⟨h, out⟩
 ·rw [if_neg h] at out; exact out.elim
theorem Gu {o : Option D} {i : Int} (h : o.bind asI = some i) : o = some (.int i) := by
 obtain ⟨d, e, h⟩ := Option.bind_eq_some_iff.mp h
 rw [e, JN h]
theorem Out.lift {J : (Addr → Prop) → Heap → γ → δ → Prop} {r : Res δ} (out : Out G cx sc same S s J Q E r) (x : Ext S s.heap S₁ h₁) (v : same = true → QA cx.env s.heap h₁) : Out G cx sc same S₁ { s with heap := h₁, toks := t₁ } J Q E r := by
 cases r with
 | stuck => exact out
 | exc C ρ => exact fun e h' tk S' r' f' x' => out e h' tk S' r' (f'.back x) (x.trans x')
 | ok b ρ => exact fun a h' tk S' r' j' x' v' => out a h' tk S' r' j' (x.trans x') fun q => (v q).trans (v' q)
end
inductive Fresh (cx : Cx) (S : Addr → Prop) (h : Heap) (v : Value) (d : D) : Prop
 | mk (a : Addr) (e : v = .ref a) (n : ¬ S a) (o : X2 S h a d) (k : cx.h₀.get? a = none) (nv : ∀ x, Xn x = false → ¬ Var cx.env h x (.ref a)) : Fresh cx S h v d
noncomputable def JJ (cx : Cx) (S : Addr → Prop) (h : Heap) (v : Value) : T → Prop
 | .sh d => RV S h v d
 | .ow _ d => Fresh cx S h v d
noncomputable def TSt (cx : Cx) (S : Addr → Prop) (h : Heap) (v : Value) : T → Prop
 | .sh d => RV S h v d
 | .ow _ d => ∃ a, v = .ref a ∧ ¬ S a ∧ UB S h a d ∧ cx.h₀.get? a = none ∧ (∀ x, Xn x = false → ¬ Var cx.env h x (.ref a)) ∧ ((∃ ks ds, d = .dict ks ds) → a ≠ cx.env.locals)
theorem JJ.st {cx : Cx} {S : Addr → Prop} {h : Heap} {v : Value} {t : T} (q : JJ cx S h v t) : TSt cx S h v t := by
 cases t with
 | sh d => exact q
 | ow m d =>
  obtain ⟨a, e, n, o, k, nv⟩ := q
  refine ⟨a, e, n, o.v, k, nv, ?_⟩
  rintro ⟨ks, ds, rfl⟩
  exact o.elim
theorem Rel.drop {G : Gd} {cx : Cx} {sc : Scope} {ρ : AEnv} {S : Addr → Prop} {h : Heap} {v : Value} {t : T} (r : Rel G cx sc ρ S h) (q : JJ cx S h v t) :
  ∃ S', Rel G cx sc ρ S' h ∧ RV S' h v t.val ∧ Ext S h S' h := by
 cases t with
 | sh d => exact ⟨S, r, q, .refl ..⟩
 | ow m d =>
  obtain ⟨a, rfl, ns, ow, n, nv⟩ := q
  obtain ⟨o, ho, hc, vs, k, hd⟩ := ow.cls
  have hl : a ≠ cx.env.locals := by
   rintro rfl
   obtain ⟨m', o', es, ep, e', hd', _⟩ := r.ns
   rw [ho] at e'; cases e'; rw [hd] at hd'; cases hd'
  refine ⟨_, r.grow ho n hl (r.notCell ho (by rw [hd]; intro v q; cases q)) nv, ?_, Ext.grow fun _ q => .inl q⟩
  unfold X2 at ow
  split at ow
  ·obtain ⟨vs', n', e', rv⟩ := ow
   exact .list (.inr rfl) e' ⟨rfl, rfl, rfl⟩ rfl (rv.ext (Ext.grow fun _ q => .inl q))
  ·exact ow.elim
noncomputable def O7 (A : Around) (k : Nat) : Prop := A.depth + k ≤ 900 ∧ A.units + 8 * k ≤ 9000
theorem O7.mono {A : Around} {k k' : Nat} (h : O7 A k) (hk : k' ≤ k) : O7 A k' := ⟨by have := h.1; lia, by have := h.2; lia⟩
structure CxOk (G : Gd) (cx : Cx) (sc : Scope) (k : Nat) : Prop where
 hsc : cx.env.scope = sc
 hk : sc.kind = .function
 hg : cx.env.globals = mainGlobals
 hb : cx.env.builtins = builtinsNs
 fr : cx.A.frames = some cx.fs
 top : ∃ env outer, cx.fs = env :: outer ∧ cx.env.frame = env.frame
 hd : G.quiet = true → cx.A.handled = none
 room : O7 cx.A k
 nodup : (Qg sc).Nodup
 bh : G.B.StaysIn cx.h₀
theorem CxOk.mono {G : Gd} {cx : Cx} {sc : Scope} {k k' : Nat} (h : CxOk G cx sc k) (hk : k' ≤ k) : CxOk G cx sc k' := { h with room := h.room.mono hk }
noncomputable def Sim (G : Gd) (k : Nat) (sc : Scope) (e : Expr) (f : AEnv → Res T) : Prop :=
 ∀ cx, CxOk G cx sc k → ∀ ρ S s, Rel G cx sc ρ S s.heap → Qx G cx sc true (eval e cx.env) S s (fun S' h' v t => JJ cx S' h' v t) (f ρ)
end Mine
end

section
set_option Elab.async false
set_option maxRecDepth 100000
namespace Mine
open PySem
inductive RB (S : Addr → Prop) (h : Heap) : Value → D → Prop
 | of {v : Value} {d : D} : RV S h v d → RB S h v d
 | own {a : Addr} {d : D} : X2 S h a d → RB S h (.ref a) d
inductive SeqV (c : String) (S : Addr → Prop) (h : Heap) (v : Value) (ds : List D) : Prop
 | mk (a : Addr) (o : Obj) (vs : Array Value) (n : Nat) (e : v = .ref a) (h1 : h.get? a = some o) (h2 : o.cls = .type c) (h3 : o.data = .seq vs n) (q : RVs S h vs.toList ds) : SeqV c S h v ds
theorem RB.list {S : Addr → Prop} {h : Heap} {v : Value} {ds : List D} (q : RB S h v (.list ds)) : SeqV "list" S h v ds := by
 cases q with
 | of q => cases q with | list _ e hc hd r => exact ⟨_, _, _, _, rfl, e, hc.1, hd, r⟩
 | own q => obtain ⟨vs, n, e, r⟩ := q; exact ⟨_, _, _, _, rfl, e, rfl, rfl, r⟩
theorem RB.rv {S : Addr → Prop} {h : Heap} {v : Value} {d : D} (q : RB S h v d) (hd : ∀ ds, d ≠ .list ds) : RV S h v d := by
 cases q with
 | of q => exact q
 | own q =>
  unfold X2 at q
  split at q
  ·exact absurd rfl (hd _)
  ·exact q.elim
theorem RB.any {S : Addr → Prop} {h : Heap} {v : Value} {d : D} (q : RB S h v d) : RV (fun _ => True) h v d := by
 cases q with
 | of q => exact q.ext (Ext.grow fun _ _ => trivial)
 | own q =>
  unfold X2 at q
  split at q
  ·obtain ⟨vs, n, e, r⟩ := q; exact .list trivial e ⟨rfl, rfl, rfl⟩ rfl (r.ext (Ext.grow fun _ _ => trivial))
  ·exact q.elim
inductive Bv where
 | val (d : D)
 | var (i : Nat)
noncomputable def Bv.get (ρ : AEnv) : Bv → Option D
 | .val d => some d
 | .var i => match ρ[i]? with
  | some (some t) => t.get
  | _ => none
noncomputable def YD (cx : Cx) (sc : Scope) (S : Addr → Prop) (h : Heap) (v : Value) : Bv → Prop
 | .val d => RV S h v d
 | .var i => ∃ x, (Qg sc)[i]? = some x ∧ Var cx.env h x v
section
variable {G : Gd} {cx : Cx} {sc : Scope} {ρ : AEnv} {S S' : Addr → Prop} {h h' : Heap} {v : Value} {b : Bv} {d : D}
theorem YD.ext (q : YD cx sc S h v b) (x : Ext S h S' h') (k : QA cx.env h h') : YD cx sc S' h' v b := by
 cases b with
 | val d => exact RV.ext x q
 | var i => obtain ⟨y, hy, hv⟩ := q; exact ⟨y, hy, k y v hv⟩
set_option tactic.hygienic true in
theorem YD.rb (q : YD cx sc S h v b) (r : Rel G cx sc ρ S h) (e : b.get ρ = some d) : RB S h v d := by
 cases b with
 | val d' => cases e; exact .of q
 | var i =>
  obtain ⟨y, hy, hv⟩ := q
  simp only [Bv.get] at e
  split at e
  ·rename_i t ht
   obtain ⟨w, hw, tv⟩ := r.vars i y t hy ht
   rw [Var.inj hv hw]
   cases t with
   | sh d => cases e; exact .of tv
   | ow m d =>
    obtain ⟨a, rfl, _, ow, _⟩ := tv
    cases d with
    | list ds => cases e; exact .own ow
    | _ => cases e
  ·cases e
theorem Zr {x : Str} (ok : CxOk G cx sc 0) (hv : Var cx.env h x v) (hn : (x == ("__classdict__" : Str)) = false) {M : Model} {A : Around} {s : Shared} (hs : s.heap = h) {Q : Value → Shared → Prop} {E : Value → Shared → Prop} (hQ : Q v s) :
  wpAny M A (loadName cx.env x) Q E s := by
 subst hs
 have hk : cx.env.scope.kind = .function := by rw [ok.hsc]; exact ok.hk
 rcases hv with ⟨a, m, b, c⟩ | ⟨a, c, b, d⟩
 ·exact wpAny_loadName_local hk a b c hQ
 ·rcases a with a | a
  ·exact wpAny_loadName_cell hk a b d hQ
  ·exact wpAny_loadName_free hk a b d hQ hn
end
noncomputable def Qf (G : Gd) (k : Nat) (sc : Scope) (e : Expr) (f : AEnv → Res Bv) : Prop :=
 ∀ cx, CxOk G cx sc k → ∀ ρ S s, Rel G cx sc ρ S s.heap → Qx G cx sc true (eval e cx.env) S s (fun S' h' v b => YD cx sc S' h' v b) (f ρ)
noncomputable def Qd (f : AEnv → Res T) : AEnv → Res Bv := fun ρ => (f ρ).bind fun t ρ' => .ok (.val t.val) ρ'
theorem Qf.of {G : Gd} {k : Nat} {sc : Scope} {e : Expr} {f : AEnv → Res T} (h : Sim G k sc e f) : Qf G k sc e (Qd f) := by
 intro cx ok ρ S s r Q E out
 refine h cx ok ρ S s r Q E ?_
 refine out.step0 fun t ρ' out v h' tk S' rel j x vs => ?_
 obtain ⟨S₂, rel₂, rv, x₂⟩ := rel.drop j
 exact out v h' tk S₂ rel₂ rv (x.trans x₂) vs
noncomputable def eOp (i : Nat) : AEnv → Res Bv := fun ρ => match ρ[i]? with
 | some (some _) => .ok (.var i) ρ
 | _ => .stuck
set_option tactic.hygienic true in
theorem Ko {G : Gd} {k : Nat} {sc : Scope} {x : Str} {pos : Pos} {i : Nat} (hx : (Qg sc)[i]? = some x) (hd : (x == ("__debug__" : Str)) = false) (hn : (x == ("__classdict__" : Str)) = false) :
  Qf G k sc (.Name x pos) (eOp i) := by
 intro cx ok ρ S s r Q E out
 unfold eOp at out
 split at out
 ·rename_i t ht
  obtain ⟨v, hv, tv⟩ := r.vars i x t hx ht
  exact wpAny_Name (Zr (ok.mono (Nat.zero_le _)) hv hn rfl (out v s.heap s.toks S r ⟨x, hx, hv⟩ (Ext.refl ..) fun _ => QA.refl _ _)) hd
 ·exact out.elim
theorem Rel.dropVar {G : Gd} {cx : Cx} {sc : Scope} {ρ : AEnv} {S : Addr → Prop} {h : Heap} {i : Nat} {x : Str} {ds : List D} {v : Value} (r : Rel G cx sc ρ S h) (hx : (Qg sc)[i]? = some x) (ht : ρ[i]? = some (some (.ow true (.list ds)))) (hv : Var cx.env h x v) :
  ∃ S', Rel G cx sc (ρ.set i (some (.sh (.list ds)))) S' h ∧ RV S' h v (.list ds) ∧ Ext S h S' h := by
 obtain ⟨w, hw, a, rfl, ns, ow, n⟩ := r.vars i x _ hx ht
 rw [Var.inj hv hw]
 have ow : X2 S h a (.list ds) := ow
 generalize hdd : D.list ds = d at *
 obtain ⟨o, ho, hc, vs, nn, hd⟩ := ow.cls
 have hl : a ≠ cx.env.locals := by
  rintro rfl
  obtain ⟨m', o', es, ep, e', hd', _⟩ := r.ns
  rw [ho] at e'; cases e'; rw [hd] at hd'; cases hd'
 have rv : RV (fun b => S b ∨ b = a) h (.ref a) d := by
  unfold X2 at ow
  split at ow
  ·obtain ⟨vs', n', e', rv⟩ := ow
   exact .list (.inr rfl) e' ⟨rfl, rfl, rfl⟩ rfl (rv.ext (Ext.grow fun _ q => .inl q))
  ·exact ow.elim
 refine ⟨fun b => S b ∨ b = a, ⟨r.base, r.keep, r.ff, r.ns, r.cells, fun b q => q.elim (r.sdom b) fun q => ⟨o, by rw [q]; exact ho⟩, fun b q => q.elim (r.sok b) fun q => .inr (by rw [q]; exact n rfl),
  fun q => q.elim r.sloc fun q => hl q.symm, fun x c e q => q.elim (r.scell x c e) (r.notCell ho (by rw [hd]; intro v q; cases q) x c e), r.live, fun j y m e hy hj => ?_, fun v q => let ⟨C, e⟩ := r.hok v q; ⟨C, e.ext (Ext.grow fun _ q => .inl q)⟩, fun j y t hy htj => ?_, fun j k y z m m' e e' u hy hz hj hk a b => ?_, r.dok.set fun _ _ _ q => by cases q⟩, rv, Ext.grow fun _ q => .inl q⟩
 ·have hji : i ≠ j := by rintro rfl; rw [List.getElem?_set_self (by rw [List.getElem?_eq_some_iff] at ht; exact ht.1)] at hj; cases hj
  rw [List.getElem?_set_ne hji] at hj
  exact r.clean j y m e hy hj
 ·by_cases hij : i = j
  ·subst hij
   have : (ρ.set i (some (T.sh d)))[i]? = some (some (T.sh d)) := by
    rw [List.getElem?_set_self]; rw [List.getElem?_eq_some_iff] at ht; exact ht.1
   rw [this] at htj; cases htj
   rw [hx] at hy; cases hy
   exact ⟨_, hw, rv⟩
  ·rw [List.getElem?_set_ne hij] at htj
   obtain ⟨u, hu, tv⟩ := r.vars j y t hy htj
   refine ⟨u, hu, ?_⟩
   cases t with
   | sh e => exact RV.ext (Ext.grow fun _ q => .inl q) tv
   | ow m e =>
    obtain ⟨b, rfl, nb, owb, n'⟩ := tv
    refine ⟨b, rfl, fun q => q.elim nb fun q => ?_, owb.ext (Ext.grow fun _ q => .inl q) (fun o e => ⟨o.slots, e, fun _ => rfl⟩), n'⟩
    subst q
    exact hij (r.inj i j x y true m d e (.ref b) hx hy ht htj hw hu)
 ·have hji : i ≠ j := by rintro rfl; rw [List.getElem?_set_self (by rw [List.getElem?_eq_some_iff] at ht; exact ht.1)] at hj; cases hj
  have hki : i ≠ k := by rintro rfl; rw [List.getElem?_set_self (by rw [List.getElem?_eq_some_iff] at ht; exact ht.1)] at hk; cases hk
  rw [List.getElem?_set_ne hji] at hj
  rw [List.getElem?_set_ne hki] at hk
  exact r.inj j k y z m m' e e' u hy hz hj hk a b
noncomputable def XM (i : Nat) : AEnv → Res T := fun ρ => match ρ[i]? with
 | some (some (.sh d)) => .ok (.sh d) ρ
 | some (some (.ow true (.list ds))) => .ok (.sh (.list ds)) (ρ.set i (some (.sh (.list ds))))
 | _ => .stuck
set_option tactic.hygienic true in
theorem E3 {G : Gd} {k : Nat} {sc : Scope} {x : Str} {pos : Pos} {i : Nat} (hx : (Qg sc)[i]? = some x) (hd : (x == ("__debug__" : Str)) = false) (hn : (x == ("__classdict__" : Str)) = false) :
  Sim G k sc (.Name x pos) (XM i) := by
 intro cx ok ρ S s r Q E out
 unfold XM at out
 split at out
 ·rename_i d ht
  obtain ⟨v, hv, tv⟩ := r.vars i x _ hx ht
  exact wpAny_Name (Zr (ok.mono (Nat.zero_le _)) hv hn rfl (out v s.heap s.toks S r tv (Ext.refl ..) fun _ => QA.refl _ _)) hd
 ·rename_i d ht
  obtain ⟨v, hv, tv⟩ := r.vars i x _ hx ht
  obtain ⟨S', r', rv, x'⟩ := r.dropVar hx ht hv
  exact wpAny_Name (Zr (ok.mono (Nat.zero_le _)) hv hn rfl (out v s.heap s.toks S' r' rv x' fun _ => QA.refl _ _)) hd
 ·exact out.elim
noncomputable def Qb (d : D) : AEnv → Res T := fun ρ => .ok (.sh d) ρ
section
variable {G : Gd} {k : Nat} {sc : Scope} {pos : Pos} {kk : Nat}
theorem Jy : Sim G k sc (.Constant .none kk pos) (Qb .none) := fun _ _ _ _ s r _ _ out => wpAny_Constant_none (out _ s.heap s.toks _ r .none (Ext.refl ..) fun _ => QA.refl _ _)
theorem XT {b : Bool} : Sim G k sc (.Constant (.bool b) kk pos) (Qb (.bool b)) := fun _ _ _ _ s r _ _ out => wpAny_Constant_bool (out _ s.heap s.toks _ r (.bool b) (Ext.refl ..) fun _ => QA.refl _ _)
theorem Qi {i : Int} : Sim G k sc (.Constant (.int i) kk pos) (Qb (.int i)) := fun _ _ _ _ s r _ _ out => wpAny_Constant_int (out _ s.heap _ _ r (.int i _) (Ext.refl ..) fun _ => QA.refl _ _)
theorem Xh {x : Str} : Sim G k sc (.Constant (.str x) kk pos) (Qb (.str x)) := fun _ _ _ _ s r _ _ out => wpAny_Constant_str (out _ s.heap _ _ r (.str x _) (Ext.refl ..) fun _ => QA.refl _ _)
theorem OE {x : Str} {v : Value} (hG : G.Ok) (hx : sc.names.lookup x = some .globalImplicit) (hv : G.mg x = some v) (hl : ∀ a, v = .ref a → ∃ o, G.B.get? a = some o) (hd : (x == ("__debug__" : Str)) = false) : Sim G k sc (.Name x pos) (Qb (.glob v)) := by
 intro cx ok ρ S s r Q E out
 refine Calls.Name_function_global (by rw [ok.hsc]; exact ok.hk) (by unfold Env.kindOf; rw [ok.hsc]; exact hx) (Calls.loadGlobal_global (mg := G.mg) (by rw [ok.hg]; exact hG.g.keeps r.base) hv ?_) hd
 exact out _ s.heap s.toks _ r (.glob v fun a e => let ⟨o, e'⟩ := hl a e; ⟨o, r.base _ _ e'⟩) (Ext.refl ..) fun _ => QA.refl _ _
theorem Bp {x : Str} {v : Value} (hG : G.Ok) (hx : sc.names.lookup x = some .globalImplicit) (hm : G.mg x = none) (hv : G.mb x = some v) (hl : ∀ a, v ≠ .ref a) (hd : (x == ("__debug__" : Str)) = false) : Sim G k sc (.Name x pos) (Qb (.glob v)) := by
 intro cx ok ρ S s r Q E out
 refine Calls.Name_function_global (by rw [ok.hsc]; exact ok.hk) (by unfold Env.kindOf; rw [ok.hsc]; exact hx) (Calls.loadGlobal_builtin (mg := G.mg) (mb := G.mb) (by rw [ok.hg]; exact hG.g.keeps r.base) hm (by rw [ok.hb]; exact hG.b.keeps r.base) hv ?_) hd
 exact out _ s.heap s.toks _ r (.glob v fun a e => (hl a e).elim) (Ext.refl ..) fun _ => QA.refl _ _
end
end Mine
end

section
set_option Elab.async false
set_option maxRecDepth 100000
namespace Mine
open PySem
noncomputable def Op1 (G : Gd) (m : Value → Sem Value) (F : D → Option T) : Prop :=
 ∀ cx sc, CxOk G cx sc 0 → ∀ ρ S s v x t, Rel G cx sc ρ S s.heap → RB S s.heap v x → F x = some t → Qx G cx sc true (m v) S s (fun S' h' v t => JJ cx S' h' v t) (.ok t ρ)
noncomputable def Op2 (G : Gd) (m : Value → Value → Sem Value) (F : D → D → Option T) : Prop :=
 ∀ cx sc, CxOk G cx sc 0 → ∀ ρ S s v w x y t, Rel G cx sc ρ S s.heap → RB S s.heap v x → RB S s.heap w y → F x y = some t → Qx G cx sc true (m v w) S s (fun S' h' v t => JJ cx S' h' v t) (.ok t ρ)
noncomputable def Wv (F : D → Option T) (f : AEnv → Res Bv) : AEnv → Res T := fun ρ => (f ρ).bind fun a ρ₁ => ob (a.get ρ₁) fun x => ob (F x) fun t => .ok t ρ₁
noncomputable def Qq (F : D → D → Option T) (f g : AEnv → Res Bv) : AEnv → Res T := fun ρ => (f ρ).bind fun a ρ₁ => (g ρ₁).bind fun b ρ₂ => ob (a.get ρ₂) fun x => ob (b.get ρ₂) fun y => ob (F x y) fun t => .ok t ρ₂
section
variable {G : Gd} {cx : Cx} {sc : Scope} {same : Bool} {α β : Type} {S : Addr → Prop} {s : Shared}
theorem Qx.stuck {m : Sem α} {J : (Addr → Prop) → Heap → α → β → Prop} : Qx G cx sc same m S s J .stuck := fun _ _ out => out.elim
theorem Qx.wp {m m' : Sem α} {J : (Addr → Prop) → Heap → α → β → Prop} {r : Res β} (h : Qx G cx sc same m S s J r) (k : ∀ Q E, wpAny G.M cx.A m Q E s → wpAny G.M cx.A m' Q E s) : Qx G cx sc same m' S s J r :=
 fun Q E out => k Q E (h Q E out)
theorem Qx.operate {m : Sem Value} {vs : List Value} {J : (Addr → Prop) → Heap → Value → β → Prop} {r : Res β} (h : Qx G cx sc same m S s J r) : Qx G cx sc same (operate vs m) S s J r :=
 h.wp fun _ _ h => wpAny_operating h
end
theorem WS {G : Gd} {cx : Cx} {sc : Scope} {γ δ : Type} {S : Addr → Prop} {s : Shared} {l r : Expr} {f g : AEnv → Res Bv} {k : Nat} {ρ : AEnv} {n : Value → Value → Sem γ} {J : (Addr → Prop) → Heap → γ → δ → Prop} {K : D → D → AEnv → Res δ}
  (hl : Qf G k sc l f) (hr : Qf G k sc r g) (ok : CxOk G cx sc k) (rel : Rel G cx sc ρ S s.heap)
  (h : ∀ ρ' S' h' tk v w x y, Rel G cx sc ρ' S' h' → RB S' h' v x → RB S' h' w y → Qx G cx sc true (n v w) S' { s with heap := h', toks := tk } J (K x y ρ'))  :
  Qx G cx sc true (do let a ← eval l cx.env; let b ← holding [a] (eval r cx.env); n a b) S s J ((f ρ).bind fun a ρ₁ => (g ρ₁).bind fun b ρ₂ => ob (a.get ρ₂) fun x => ob (b.get ρ₂) fun y => K x y ρ₂) := by
 refine Qx.bind (hl cx ok ρ S s rel) fun a ρ₁ va h₁ t₁ S₁ _ rel₁ ja x₁ v₁ => ?_
 refine Qx.bind (Qx.holding (hr cx ok ρ₁ S₁ { s with heap := h₁, toks := t₁ } rel₁)) fun b ρ₂ vb h₂ t₂ S₂ _ rel₂ jb x₂ v₂ => ?_
 have ja₂ : YD cx sc S₂ h₂ va a := YD.ext ja x₂ (v₂ rfl)
 exact Qx.ob fun x hx => Qx.ob fun y hy => h ρ₂ S₂ h₂ t₂ va vb x y rel₂ (ja₂.rb rel₂ hx) (YD.rb jb rel₂ hy)
theorem Qk {G : Gd} {k : Nat} {sc : Scope} {l r : Expr} {op : Operator} {pos : Pos} {f g : AEnv → Res Bv} {F : D → D → Option T} (hl : Qf G k sc l f) (hr : Qf G k sc r g) (hop : Op2 G (binaryOp op) F) :
  Sim G k sc (.BinOp l op r pos) (Qq F f g) := by
 intro cx ok ρ S s rel
 show Qx G cx sc true (do let a ← eval l cx.env; let b ← holding [a] (eval r cx.env); standAt pos; operate [a, b] (binaryOp op a b)) S s _ _
 refine WS (K := fun x y ρ₂ => ob (F x y) fun t => .ok t ρ₂) hl hr ok rel fun ρ' S' h' tk v w x y rel' rx ry => ?_
 exact Qx.standAt (Qx.operate (Qx.ob fun t ht => hop cx sc (ok.mono (Nat.zero_le _)) ρ' S' { s with heap := h', toks := tk } v w x y t rel' rx ry ht))
theorem VT {G : Gd} {k : Nat} {sc : Scope} {l r : Expr} {op : CmpOp} {pos : Pos} {f g : AEnv → Res Bv} {F : D → D → Option T} (hl : Qf G k sc l f) (hr : Qf G k sc r g) (hop : Op2 G (compareOp op) F)
  (hm : behindInMarks op r = false) : Sim G k sc (.Compare l [op] [r] pos) (Qq F f g) := by
 intro cx ok ρ S s rel
 rw [eval_Compare1, markedBehindIn_of_false hm]
 refine WS (K := fun x y ρ₂ => ob (F x y) fun t => .ok t ρ₂) hl hr ok rel fun ρ' S' h' tk v w x y rel' rx ry => ?_
 exact Qx.standAt (Qx.operate (Qx.ob fun t ht => hop cx sc (ok.mono (Nat.zero_le _)) ρ' S' { s with heap := h', toks := tk } v w x y t rel' rx ry ht))
theorem Zh {G : Gd} {k : Nat} {sc : Scope} {x : Expr} {op : UnaryOp} {pos : Pos} {f : AEnv → Res Bv} {F : D → Option T} (hx : Qf G k sc x f) (hop : Op1 G (unaryOp op) F) : Sim G k sc (.UnaryOp op x pos) (Wv F f) := by
 intro cx ok ρ S s rel
 show Qx G cx sc true (do let v ← eval x cx.env; standAt pos; holding [v] (unaryOp op v)) S s _ _
 refine Qx.bind (hx cx ok ρ S s rel) fun a ρ₁ va h₁ t₁ S₁ _ rel₁ ja x₁ v₁ => ?_
 exact Qx.standAt (Qx.holding (Qx.ob fun d hd => Qx.ob fun t ht => hop cx sc (ok.mono (Nat.zero_le _)) ρ₁ S₁ { s with heap := h₁, toks := t₁ } va d t rel₁ (YD.rb ja rel₁ hd) ht))
noncomputable def small (b : Int) : Bool := decide (b.natAbs < 2 ^ 63)
noncomputable def Oy : D → D → Option T
 | .int a, .int b => some (.sh (.int (a - b)))
 | _, _ => none
noncomputable def G8 : D → D → Option T
 | .int a, .int b => if small a || small b then some (.sh (.int (a * b))) else none
 | _, _ => none
noncomputable def YW : D → D → Option T
 | .int a, .int b => if b ≠ 0 ∧ b.natAbs < 1073741824 then some (.sh (.int (a.fdiv b))) else none
 | _, _ => none
noncomputable def X4 : D → D → Option T
 | .int a, .int b => if b ≠ 0 then some (.sh (.int (a.fmod b))) else none
 | _, _ => none
noncomputable def Us : D → Option T
 | .int a => some (.sh (.int (-a)))
 | _ => none
theorem RB.int {S : Addr → Prop} {h : Heap} {v : Value} {i : Int} (q : RB S h v (.int i)) : ∃ t, v = .int i t := by
 have := q.rv fun _ e => by cases e
 cases this; exact ⟨_, rfl⟩
theorem RB.bool {S : Addr → Prop} {h : Heap} {v : Value} {i : Bool} (q : RB S h v (.bool i)) : v = .bool i := by
 have := q.rv fun _ e => by cases e
 cases this; rfl
theorem RB.str {S : Addr → Prop} {h : Heap} {v : Value} {i : Str} (q : RB S h v (.str i)) : ∃ t, v = .str i t := by
 have := q.rv fun _ e => by cases e
 cases this; exact ⟨_, rfl⟩
theorem RB.none {S : Addr → Prop} {h : Heap} {v : Value} (q : RB S h v .none) : v = .none := by
 have := q.rv fun _ e => by cases e
 cases this; rfl
theorem RB.tup {S : Addr → Prop} {h : Heap} {v : Value} {ds : List D} (q : RB S h v (.tup ds)) : SeqV "tuple" S h v ds := by
 have := q.rv fun _ e => by cases e
 cases this with | tup e hc hd r => exact ⟨_, _, _, _, rfl, e, hc, hd, r⟩
theorem ZU {G : Gd} {cx : Cx} {sc : Scope} {ρ : AEnv} {S : Addr → Prop} {s : Shared} {Q : Value → Shared → Prop} {E : Value → Shared → Prop} {d : D} (out : Out G cx sc true S s (fun S' h' v t => JJ cx S' h' v t) Q E (.ok (.sh d) ρ))
  (rel : Rel G cx sc ρ S s.heap) {v : Value} {tk : Nat} (q : RV S s.heap v d) : Q v { s with toks := tk } := out v s.heap tk S rel q (Ext.refl ..) fun _ => QA.refl _ _
section
variable {G : Gd}
theorem VO : Op2 G (binaryOp .Sub) Oy := by
 intro cx sc ok ρ S s v w x y t rel rx ry e Q E out
 unfold Oy at e; split at e
 ·obtain ⟨_, rfl⟩ := rx.int; obtain ⟨_, rfl⟩ := ry.int; cases e
  exact PySem.P.sub_int (ZU out rel (.int _ _))
 ·cases e
theorem OR {b : Int} (h : small b = true) : Builtin.Int.intBits b ≤ 64 := by
 unfold small at h; simp only [decide_eq_true_eq] at h
 exact intBits_le_64 (by omega) (by omega)
set_option tactic.hygienic true in
theorem Gq : Op2 G (binaryOp .Mult) G8 := by
 intro cx sc ok ρ S s v w x y t rel rx ry e Q E out
 unfold G8 at e; split at e
 ·obtain ⟨_, rfl⟩ := rx.int; obtain ⟨_, rfl⟩ := ry.int
  split at e
  ·rename_i hs
   cases e
   refine PySem.P.mul_int (ZU out rel (.int _ _)) ?_
   rcases Bool.or_eq_true_iff.mp hs with q | q
   ·exact .of_left (OR q)
   ·exact .of_right (OR q)
  ·cases e
 ·cases e
set_option tactic.hygienic true in
theorem Y0 : Op2 G (binaryOp .FloorDiv) YW := by
 intro cx sc ok ρ S s v w x y t rel rx ry e Q E out
 unfold YW at e; split at e
 ·obtain ⟨_, rfl⟩ := rx.int; obtain ⟨_, rfl⟩ := ry.int
  split at e
  ·rename_i hs
   cases e
   exact PyProof.Rows.floordiv_int hs.1 (ZU out rel (.int _ _)) (.inl (PyProof.noPylong_small hs.2))
  ·cases e
 ·cases e
set_option tactic.hygienic true in
theorem Zk : Op2 G (binaryOp .Mod) X4 := by
 intro cx sc ok ρ S s v w x y t rel rx ry e Q E out
 unfold X4 at e; split at e
 ·obtain ⟨_, rfl⟩ := rx.int; obtain ⟨_, rfl⟩ := ry.int
  split at e
  ·rename_i hs
   cases e
   exact PyProof.Rows.mod_int' hs (ZU out rel (.int _ _))
  ·cases e
 ·cases e
theorem UV : Op1 G (unaryOp .USub) Us := by
 intro cx sc ok ρ S s v x t rel rx e Q E out
 unfold Us at e; split at e
 ·obtain ⟨_, rfl⟩ := rx.int; cases e
  exact PySem.P.neg_int (ZU out rel (.int _ _))
 ·cases e
noncomputable def ltI : D → D → Option T
 | .int a, .int b => some (.sh (.bool (decide (a < b))))
 | _, _ => none
noncomputable def leI : D → D → Option T
 | .int a, .int b => some (.sh (.bool (decide (a ≤ b))))
 | _, _ => none
noncomputable def gtI : D → D → Option T
 | .int a, .int b => some (.sh (.bool (decide (b < a))))
 | _, _ => none
theorem Dd : Op2 G (compareOp .Lt) ltI := by
 intro cx sc ok ρ S s v w x y t rel rx ry e Q E out
 unfold ltI at e; split at e
 ·obtain ⟨_, rfl⟩ := rx.int; obtain ⟨_, rfl⟩ := ry.int; cases e
  exact PySem.P.lt_int (ZU out rel (.bool _))
 ·cases e
theorem WU : Op2 G (compareOp .LtE) leI := by
 intro cx sc ok ρ S s v w x y t rel rx ry e Q E out
 unfold leI at e; split at e
 ·obtain ⟨_, rfl⟩ := rx.int; obtain ⟨_, rfl⟩ := ry.int; cases e
  exact PySem.P.le_int (ZU out rel (.bool _))
 ·cases e
theorem F7 : Op2 G (compareOp .Gt) gtI := by
 intro cx sc ok ρ S s v w x y t rel rx ry e Q E out
 unfold gtI at e; split at e
 ·obtain ⟨_, rfl⟩ := rx.int; obtain ⟨_, rfl⟩ := ry.int; cases e
  exact PySem.P.gt_int (ZU out rel (.bool _))
 ·cases e
end
mutual
noncomputable def Kt : D → Option PyData
 | .none => some .none
 | .bool b => some (.bool b)
 | .int i => some (.int i)
 | .str x => some (.str x)
 | .tup ds => (Yu ds).map .tuple
 | .list ds => (Yu ds).map .list
 | _ => none
noncomputable def Yu : List D → Option (List PyData)
 | [] => some []
 | d :: ds => match Kt d, Yu ds with
  | some p, some ps => some (p :: ps)
  | _, _ => none
end
theorem Vs {h : Heap} {vs : List Value} {ds : List D} {p : PyData} {k : List PyData → PyData} (r : ∀ {ps : List PyData}, Yu ds = some ps → ∃ as, ReadsAll h vs ps as) (e : (Yu ds).map k = some p) : ∃ ps as, p = k ps ∧ ReadsAll h vs ps as := by
 cases hq : Yu ds with
 | none => rw [hq] at e; cases e
 | some ps =>
  rw [hq] at e; cases e
  obtain ⟨as, q⟩ := r hq
  exact ⟨ps, as, rfl, q⟩
theorem RV.reads {S : Addr → Prop} {h : Heap} {v : Value} {d : D} (q : RV S h v d) : ∀ {p : PyData}, Kt d = some p → ∃ as, Reads h v p as :=
 RV.rec (motive_1 := fun v d _ => ∀ {p : PyData}, Kt d = some p → ∃ as, Reads h v p as) (motive_2 := fun vs ds _ => ∀ {ps : List PyData}, Yu ds = some ps → ∃ as, ReadsAll h vs ps as)
  (fun e => by cases e; exact ⟨_, .none⟩) (fun b _ e => by cases e; exact ⟨_, .bool b⟩) (fun i t _ e => by cases e; exact ⟨_, .int i t⟩) (fun x t _ e => by cases e; exact ⟨_, .str x t⟩)
  (fun a b c _ r _ e => by obtain ⟨ps, as, rfl, q⟩ := Vs (k := .tuple) r e; exact ⟨as, .tuple a b c q⟩)
  (fun _ a b c _ r _ e => by obtain ⟨ps, as, rfl, q⟩ := Vs (k := .list) r e; exact ⟨_, .list a b.1 c q⟩)
  (fun _ _ e => by cases e) (fun _ _ _ _ _ _ e => by cases e) (fun _ _ _ e => by cases e) (fun _ _ _ _ _ _ _ _ e => by cases e)
  (fun e => by cases e; exact ⟨_, .nil⟩)
  (fun {v d vs ds} _ _ a b _ e => by
   have e : (match Kt d, Yu ds with | some p, some ps => some (p :: ps) | _, _ => Option.none) = some _ := e
   cases hp : Kt d with
   | none => rw [hp] at e; cases e
   | some p =>
    cases hq : Yu ds with
    | none => rw [hp, hq] at e; cases e
    | some ps =>
     rw [hp, hq] at e; cases e
     obtain ⟨as, q'⟩ := a hp
     obtain ⟨bs, r'⟩ := b hq
     exact ⟨_, .cons q' r'⟩) q
noncomputable def eqD (x y : D) : Option Bool := match Kt x, Kt y with
 | some p, some q => if SeqAt.shaped p && SeqAt.shaped q then some (PyData.eqv p q) else none
 | _, _ => none
noncomputable def eqI (x y : D) : Option T := (eqD x y).map fun b => .sh (.bool b)
noncomputable def neI (x y : D) : Option T := (eqD x y).map fun b => .sh (.bool !b)
set_option tactic.hygienic true in
theorem VG {S : Addr → Prop} {h : Heap} {v w : Value} {x y : D} {b : Bool} (rx : RB S h v x) (ry : RB S h w y) (e : eqD x y = some b) :
  ∃ p q as bs, Reads h v p as ∧ Reads h w q bs ∧ SeqAt.shaped p = true ∧ SeqAt.shaped q = true ∧ b = PyData.eqv p q := by
 unfold eqD at e
 split at e
 ·rename_i p q hp hq
  split at e
  ·rename_i hs
   obtain ⟨h1, h2⟩ := Bool.and_eq_true_iff.mp hs
   obtain ⟨as, ra⟩ := RV.reads rx.any hp
   obtain ⟨bs, rb⟩ := RV.reads ry.any hq
   exact ⟨p, q, as, bs, ra, rb, h1, h2, (Option.some.inj e).symm⟩
  ·cases e
 ·cases e
theorem UW {G : Gd} : Op2 G (compareOp .Eq) eqI := by
 intro cx sc ok ρ S s v w x y t rel rx ry e Q E out
 unfold eqI at e
 obtain ⟨b, hb, rfl⟩ := Option.map_eq_some_iff.mp e
 obtain ⟨p, q, as, bs, ra, rb, h1, h2, rfl⟩ := VG rx ry hb
 exact PyProof.Rows.eq_dataH ra rb h1 h2 (by have := ok.room.2; unfold cLine; lia) (ZU out rel (tk := s.toks) (.bool _))
theorem Ub {G : Gd} : Op2 G (compareOp .NotEq) neI := by
 intro cx sc ok ρ S s v w x y t rel rx ry e Q E out
 unfold neI at e
 obtain ⟨b, hb, rfl⟩ := Option.map_eq_some_iff.mp e
 obtain ⟨p, q, as, bs, ra, rb, h1, h2, rfl⟩ := VG rx ry hb
 exact PyProof.Rows.ne_dataH ra rb h1 h2 (by have := ok.room.2; unfold cLine; lia) (ZU out rel (tk := s.toks) (.bool _))
noncomputable def isD (x : D) : D → Option Bool
 | .none => (match x with | .none => some true | .glob _ => none | _ => some false)
 | .bool c => (match x with | .bool b => some (b == c) | .glob _ => none | _ => some false)
 | _ => none
noncomputable def isI (x y : D) : Option T := (isD x y).map fun b => .sh (.bool b)
set_option tactic.hygienic true in
theorem Ev {S : Addr → Prop} {h : Heap} {v w : Value} {x y : D} {b : Bool} (rx : RB S h v x) (ry : RB S h w y) (e : isD x y = some b) : isSame v w = pure b := by
 have rx := rx.any
 unfold isD at e
 split at e
 ·rw [ry.none]
  cases rx <;> first | (cases e; rfl) | (cases e; done)
 ·rename_i c
  rw [ry.bool]
  cases rx with
  | bool b' => simp only [Option.some.injEq] at e; subst e; cases b' <;> cases c <;> rfl
  | _ => first | (cases e; rfl) | (cases e; done)
 ·cases e
theorem GP {G : Gd} : Op2 G (compareOp .Is) isI := by
 intro cx sc ok ρ S s v w x y t rel rx ry e Q E out
 unfold isI at e
 obtain ⟨b, hb, rfl⟩ := Option.map_eq_some_iff.mp e
 show wpAny G.M cx.A (do return .bool (← isSame v w)) Q E s
 rw [Ev rx ry hb]
 exact wpAny_bind (wpAny_pure (wpAny_pure (ZU out rel (tk := s.toks) (.bool _))))
end Mine
end

section
set_option Elab.async false
set_option maxRecDepth 100000
namespace Mine
open PySem
section
variable {G : Gd} {cx : Cx} {sc : Scope} {ρ : AEnv} {S : Addr → Prop} {s : Shared}
theorem Rel.push (r : Rel G cx sc ρ S s.heap) (o : Obj) : Rel G cx sc ρ S (s.heap.push o) := r.keeps fun _ _ e => Heap.get?_push_of_some _ e
theorem Xw {S : Addr → Prop} {h : Heap} (o : Obj) : Ext S h S (h.push o) := Ext.of_keeps fun _ _ e => Heap.get?_push_of_some _ e
theorem XZ {h : Heap} (o : Obj) : Kp h (h.push o) := Kp.of_keeps fun _ _ e => Heap.get?_push_of_some _ e
theorem Vl {vs : List Value} {ds : List D} (r : Rel G cx sc ρ S s.heap) (q : RVs S s.heap vs ds) (hl : ds.length ≤ 1000000) :
  Qx G cx sc true (newTuple vs) S s (fun S' h' v t => JJ cx S' h' v t) (.ok (.sh (.tup ds)) ρ) := by
 intro Q E out
 refine wpAny_newObj_type (out _ _ s.toks S (r.push _) ?_ (Xw _) fun _ => r.same (XZ _)) ?_
 ·exact .tup (Heap.get?_push_size _ rfl) rfl rfl (by simpa using q.ext (Xw _))
 ·show vs.toArray.size ≤ sizeLine
  rw [List.size_toArray, q.length, sizeLine_eq]; exact omB hl
theorem Zw {h' : Heap} {a : Addr} {vs : Array Value} {n : Nat} {ds : List D} (r : Rel G cx sc ρ S s.heap) (k : Kp s.heap h') (e : s.heap.get? a = none) (e' : h'.get? a = some { cls := .type "list", data := .seq vs n }) (q : RVs S h' vs.toList ds) :
  Fresh cx S h' (.ref a) (.list ds) := by
 refine ⟨a, rfl, fun q => ?_, ⟨vs, n, e', q⟩, r.keep.none e, fun x hd q => ?_⟩
 ·obtain ⟨o, e₁⟩ := r.sdom _ q; rw [e] at e₁; cases e₁
 ·obtain ⟨o, e₁⟩ := r.live x _ hd (Var.of_kp k r.ns r.cells q); rw [e] at e₁; cases e₁
theorem W9 {vs : List Value} {ds : List D} (r : Rel G cx sc ρ S s.heap) (q : RVs S s.heap vs ds) (hl : ds.length ≤ 1000000) :
  Qx G cx sc true (newList vs) S s (fun S' h' v t => JJ cx S' h' v t) (.ok (.ow true (.list ds)) ρ) := by
 intro Q E out
 refine wpAny_newObj_type (out _ _ s.toks S (r.push _) ?_ (Xw _) fun _ => r.same (XZ _)) ?_
 ·exact Zw r (XZ _) (Heap.get?_none_of_le (Nat.le_refl _)) (Heap.get?_push_size _ rfl) (by simpa using q.ext (Xw _))
 ·show vs.toArray.size ≤ sizeLine
  rw [List.size_toArray, q.length, sizeLine_eq]; exact omB hl
end
noncomputable def W2 (G : Gd) (k : Nat) (sc : Scope) (es : List Expr) (f : AEnv → Res (List D)) : Prop :=
 ∀ pos cx, CxOk G cx sc k → ∀ ρ S s, Rel G cx sc ρ S s.heap → Qx G cx sc true (spliced (backTo pos (starEach es cx.env))) S s (fun S' h' vs ds => RVs S' h' vs ds) (f ρ)
noncomputable def Xd : AEnv → Res (List D) := fun ρ => .ok [] ρ
noncomputable def Qp (f : AEnv → Res T) (g : AEnv → Res (List D)) : AEnv → Res (List D) := fun ρ => (f ρ).bind fun t ρ₁ => (g ρ₁).bind fun ds ρ₂ => .ok (t.val :: ds) ρ₂
noncomputable def QO : Expr → Bool
 | .Starred .. => false
 | _ => true
theorem JU {e : Expr} {rest : List Expr} {env : Env} (h : QO e = true) : starEach (e :: rest) env = (false, eval e env) :: starEach rest env := by
 cases e <;> first | rfl | cases h
section
variable {G : Gd} {k : Nat} {sc : Scope}
theorem Ql : W2 G k sc [] Xd := fun pos cx ok ρ S s r => Qx.pure r .nil
theorem Yi {pos : Pos} {e : Expr} {rest : List Expr} {env : Env} (h : QO e = true) : spliced (backTo pos (starEach (e :: rest) env)) = (do
  let v ← eval e env
  let here ← (pure [v] : Sem (List Value))
  return here ++ (← holding here (spliced (backTo pos (starEach rest env))))) := by
 rw [JU h]; rfl
theorem Qx.shared {cx : Cx} {S : Addr → Prop} {s : Shared} {m : Sem Value} {r : Res T} (h : Qx G cx sc true m S s (fun S' h' v t => JJ cx S' h' v t) r) :
  Qx G cx sc true m S s (fun S' h' v d => RV S' h' v d) (r.bind fun t ρ => .ok t.val ρ) := by
 intro Q E out
 refine h Q E ?_
 cases r with
 | stuck => exact out
 | exc C ρ => exact out
 | ok t ρ =>
  intro v h' tk S' rel j x vs
  obtain ⟨S₂, rel₂, rv, x₂⟩ := rel.drop j
  exact out v h' tk S₂ rel₂ rv (x.trans x₂) vs
theorem FI {α β γ : Type} (r : Res α) (f : α → β) (g : β → AEnv → Res γ) : (r.bind fun a ρ => .ok (f a) ρ).bind g = r.bind fun a ρ => g (f a) ρ := by
 cases r <;> rfl
theorem CO {e : Expr} {rest : List Expr} {f : AEnv → Res T} {g : AEnv → Res (List D)} (he : Sim G k sc e f) (hr : W2 G k sc rest g) (hs : QO e = true) : W2 G k sc (e :: rest) (Qp f g) := by
 intro pos cx ok ρ S s r
 rw [Yi hs]
 unfold Qp
 rw [← FI (f ρ) T.val (fun d ρ₁ => (g ρ₁).bind fun ds ρ₂ => .ok (d :: ds) ρ₂)]
 refine Qx.bind (he cx ok ρ S s r).shared fun d ρ₁ v h₁ t₁ S₁ _ r₁ j₁ x₁ v₁ => ?_
 intro Q E out
 refine wpAny_bind (wpAny_pure ?_)
 refine (Qx.bind (J' := fun S' h' vs ds => RVs S' h' vs ds) (Qx.holding (hr pos cx ok ρ₁ S₁ { s with heap := h₁, toks := t₁ } r₁)) fun ds ρ₂ vs h₂ t₂ S₂ _ r₂ j₂ x₂ v₂ => ?_) Q E out
 exact Qx.pure r₂ (.cons (j₁.ext x₂) j₂)
end
noncomputable def YE (f : AEnv → Res (List D)) : AEnv → Res T := fun ρ => (f ρ).bind fun ds ρ₁ => if ds.length ≤ 1000000 then .ok (.sh (.tup ds)) ρ₁ else .stuck
noncomputable def XV (f : AEnv → Res (List D)) : AEnv → Res T := fun ρ => (f ρ).bind fun ds ρ₁ => if ds.length ≤ 1000000 then .ok (.ow true (.list ds)) ρ₁ else .stuck
section
variable {G : Gd} {k : Nat} {sc : Scope}
set_option tactic.hygienic true in
theorem QY {es : List Expr} {n : Nat} {pos : Pos} {f : AEnv → Res (List D)} (h : W2 G k sc es f) : Sim G k sc (.Tuple es n pos) (YE f) := by
 intro cx ok ρ S s r
 show Qx G cx sc true (do standAt pos; newTuple (← spliced (backTo pos (starEach es cx.env)))) S s _ _
 refine Qx.standAt (Qx.bind (h pos cx ok ρ S s r) fun ds ρ₁ vs h₁ t₁ S₁ _ r₁ j₁ x₁ v₁ => ?_)
 split
 ·rename_i hl; exact Vl (s := { s with heap := h₁, toks := t₁ }) r₁ j₁ hl
 ·exact Qx.stuck
set_option tactic.hygienic true in
theorem QE {es : List Expr} {pos : Pos} {f : AEnv → Res (List D)} (h : W2 G k sc es f) : Sim G k sc (.List es pos) (XV f) := by
 intro cx ok ρ S s r
 show Qx G cx sc true (do standAt pos; newList (← spliced (backTo pos (starEach es cx.env)))) S s _ _
 refine Qx.standAt (Qx.bind (h pos cx ok ρ S s r) fun ds ρ₁ vs h₁ t₁ S₁ _ r₁ j₁ x₁ v₁ => ?_)
 split
 ·rename_i hl; exact W9 (s := { s with heap := h₁, toks := t₁ }) r₁ j₁ hl
 ·exact Qx.stuck
end
noncomputable def JI (G : Gd) (k : Nat) (sc : Scope) (e : Expr) (f : AEnv → Res Bool) : Prop :=
 ∀ cx, CxOk G cx sc k → ∀ ρ S s, Rel G cx sc ρ S s.heap → Qx G cx sc true (isTrue e cx.env (eval e cx.env)) S s (fun _ _ a b => a = b) (f ρ)
noncomputable def asB : D → Option Bool
 | .bool b => some b
 | _ => none
theorem K8 {d : D} {b : Bool} (h : asB d = some b) : d = .bool b := by cases d <;> first | exact nn h | (cases h; rfl)
noncomputable def Ou : T → Option Bool
 | .sh d => asB d
 | .ow _ _ => none
theorem VE {t : T} {b : Bool} (h : Ou t = some b) : t = .sh (.bool b) := by
 cases t with
 | sh d => rw [K8 h]
 | ow m d => exact nn h
noncomputable def Xm (f : AEnv → Res Bv) : AEnv → Res Bool := fun ρ => (f ρ).bind fun a ρ₁ => ob (a.get ρ₁) fun x => ob (asB x) fun b => .ok b ρ₁
noncomputable def Yb (f : AEnv → Res Bool) : AEnv → Res Bool := fun ρ => (f ρ).bind fun b ρ₁ => .ok (!b) ρ₁
noncomputable def Ul : AEnv → Res Bool := fun ρ => .ok true ρ
noncomputable def Zm : AEnv → Res Bool := fun ρ => .ok false ρ
noncomputable def KI (f g : AEnv → Res Bool) : AEnv → Res Bool := fun ρ => (f ρ).bind fun b ρ₁ => if b then g ρ₁ else .ok false ρ₁
noncomputable def eOr (f g : AEnv → Res Bool) : AEnv → Res Bool := fun ρ => (f ρ).bind fun b ρ₁ => if b then .ok true ρ₁ else g ρ₁
noncomputable def Q9 (F : D → D → Option T) (f g : AEnv → Res Bv) : AEnv → Res Bool := fun ρ => (f ρ).bind fun a ρ₁ => (g ρ₁).bind fun b ρ₂ => ob (a.get ρ₂) fun x => ob (b.get ρ₂) fun y => ob (F x y) fun t => ob (Ou t) fun b => .ok b ρ₂
section
variable {G : Gd} {k : Nat} {sc : Scope}
theorem BK {e : Expr} {f : AEnv → Res Bv} (h : Qf G k sc e f) (he : ∀ env whole, isTrue e env whole = (do let v ← whole; standAt e.pos; holding [v] (truthy v))) : JI G k sc e (Xm f) := by
 intro cx ok ρ S s r
 rw [he]
 refine Qx.bind (h cx ok ρ S s r) fun a ρ₁ va h₁ t₁ S₁ _ r₁ ja x₁ v₁ => ?_
 refine Qx.standAt (Qx.holding (Qx.ob fun x hx => Qx.ob fun b hb => ?_))
 obtain rfl := K8 hb
 obtain rfl := (YD.rb ja r₁ hx).bool
 exact fun Q E out => wpAny_truthy_bool (out _ h₁ t₁ S₁ r₁ rfl (Ext.refl ..) fun _ => QA.refl _ _)
theorem Xo {x : Expr} {pos : Pos} {f : AEnv → Res Bool} (h : JI G k sc x f) : JI G k sc (.UnaryOp .Not x pos) (Yb f) := by
 intro cx ok ρ S s r
 show Qx G cx sc true (do return !(← isTrue x cx.env (eval x cx.env))) S s _ _
 refine Qx.bind (h cx ok ρ S s r) fun b ρ₁ a h₁ t₁ S₁ _ r₁ j x₁ v₁ => ?_
 exact Qx.pure r₁ (by rw [j])
noncomputable def OO (G : Gd) (k : Nat) (sc : Scope) (op : BoolOp) (es : List Expr) (f : AEnv → Res Bool) : Prop :=
 ∀ cx, CxOk G cx sc k → ∀ ρ S s, Rel G cx sc ρ S s.heap → Qx G cx sc true (allTrue op es cx.env) S s (fun _ _ a b => a = b) (f ρ)
theorem Wf : OO G k sc .And [] Ul := fun _ _ _ _ _ r => Qx.pure r rfl
theorem XA : OO G k sc .Or [] Zm := fun _ _ _ _ _ r => Qx.pure r rfl
theorem U3 {x : Expr} {rest : List Expr} {f g : AEnv → Res Bool} (hx : JI G k sc x f) (hr : OO G k sc .And rest g) : OO G k sc .And (x :: rest) (KI f g) := by
 intro cx ok ρ S s r
 show Qx G cx sc true (do match BoolOp.And, ← isTrue x cx.env (eval x cx.env) with | .And, false => pure false | .Or, true => pure true | _, _ => allTrue .And rest cx.env) S s _ _
 refine Qx.bind (hx cx ok ρ S s r) fun b ρ₁ a h₁ t₁ S₁ _ r₁ j x₁ v₁ => ?_
 subst j
 cases a
 ·exact Qx.pure r₁ rfl
 ·exact hr cx ok ρ₁ S₁ _ r₁
theorem Xa {x : Expr} {rest : List Expr} {f g : AEnv → Res Bool} (hx : JI G k sc x f) (hr : OO G k sc .Or rest g) : OO G k sc .Or (x :: rest) (eOr f g) := by
 intro cx ok ρ S s r
 show Qx G cx sc true (do match BoolOp.Or, ← isTrue x cx.env (eval x cx.env) with | .And, false => pure false | .Or, true => pure true | _, _ => allTrue .Or rest cx.env) S s _ _
 refine Qx.bind (hx cx ok ρ S s r) fun b ρ₁ a h₁ t₁ S₁ _ r₁ j x₁ v₁ => ?_
 subst j
 cases a
 ·exact hr cx ok ρ₁ S₁ _ r₁
 ·exact Qx.pure r₁ rfl
theorem Xv {op : BoolOp} {es : List Expr} {pos : Pos} {f : AEnv → Res Bool} (h : OO G k sc op es f) : JI G k sc (.BoolOp op es pos) f := by
 intro cx ok ρ S s r
 rw [arm_isTrue_BoolOp]; exact h cx ok ρ S s r
theorem OH {cx : Cx} {ρ : AEnv} {S : Addr → Prop} {s : Shared} {m : Sem Value} {t : T} (h : Qx G cx sc true m S s (fun S' h' v t => JJ cx S' h' v t) (.ok t ρ)) {vs : Value → List Value} :
  Qx G cx sc true (do let c ← m; holding (vs c) (truthy c)) S s (fun _ _ a b => a = b) (ob (Ou t) fun b => .ok b ρ) := by
 intro Q E out
 obtain ⟨b, hb, out⟩ := out.ob
 obtain rfl := VE hb
 refine wpAny_bind (h _ _ ?_)
 intro v h' tk S' rel j x v'
 cases j with
 | bool b => exact wpAny_holding (wpAny_truthy_bool (out _ h' tk S' rel rfl x v'))
theorem Vc {l r : Expr} {op : CmpOp} {pos : Pos} {f g : AEnv → Res Bv} {F : D → D → Option T} (hl : Qf G k sc l f) (hr : Qf G k sc r g) (hop : Op2 G (compareOp op) F)
  (hm : behindInMarks op r = false) : JI G k sc (.Compare l [op] [r] pos) (Q9 F f g) := by
 intro cx ok ρ S s rel
 rw [isTrue_Compare1, markedBehindIn_of_false hm]
 refine WS (K := fun x y ρ₂ => ob (F x y) fun t => ob (Ou t) fun b => .ok b ρ₂) hl hr ok rel fun ρ' S' h' tk v w x y rel' rx ry => ?_
 exact Qx.standAt (Qx.ob fun t ht => OH (vs := fun c => [c]) (Qx.operate (vs := [v, w]) (hop cx sc (ok.mono (Nat.zero_le _)) ρ' S' { s with heap := h', toks := tk } v w x y t rel' rx ry ht)))
end
noncomputable def Y7 (F F' : D → D → Option T) (f g h : AEnv → Res Bv) : AEnv → Res Bool := fun ρ => (f ρ).bind fun a ρ₁ => (g ρ₁).bind fun b ρ₂ => ob (a.get ρ₂) fun x => ob (b.get ρ₂) fun y => ob (F x y) fun t => ob (Ou t) fun v => if v then (h ρ₂).bind fun c ρ₃ => ob (b.get ρ₃) fun y' => ob (c.get ρ₃) fun z => ob (F' y' z) fun t' => ob (Ou t') fun w => .ok w ρ₃ else .ok false ρ₂
theorem VY {G : Gd} {k : Nat} {sc : Scope} {r : Expr} {op : CmpOp} {pos : Pos} {h : AEnv → Res Bv} {F : D → D → Option T} {cx : Cx} {ρ : AEnv} {S : Addr → Prop} {s : Shared} {vb : Value} {b : Bv} (hr : Qf G k sc r h) (hop : Op2 G (compareOp op) F) (ok : CxOk G cx sc k) (rel : Rel G cx sc ρ S s.heap) (jb : YD cx sc S s.heap vb b) :
  Qx G cx sc true (do let rv ← holding [vb] (eval r cx.env); standAt pos; let c ← operate [vb, rv] (compareOp op vb rv); holding [c] (truthy c)) S s (fun _ _ a b => a = b)
   ((h ρ).bind fun c ρ₃ => ob (b.get ρ₃) fun y' => ob (c.get ρ₃) fun z => ob (F y' z) fun t' => ob (Ou t') fun w => .ok w ρ₃) := by
 refine Qx.bind (Qx.holding (hr cx ok ρ S s rel)) fun c' ρ₄ vc h₄ t₄ S₄ _ rel₄ jc x₄ v₄ => ?_
 exact Qx.standAt (Qx.ob fun y' hy' => Qx.ob fun z hz => Qx.ob fun t' ht => OH (vs := fun c => [c]) (Qx.operate (vs := [vb, vc]) (hop cx sc (ok.mono (Nat.zero_le _)) ρ₄ S₄ { s with heap := h₄, toks := t₄ } vb vc y' z t' rel₄ (YD.rb (YD.ext jb x₄ (v₄ rfl)) rel₄ hy') (YD.rb jc rel₄ hz) ht)))
theorem CA {G : Gd} {k : Nat} {sc : Scope} {l m r : Expr} {op op' : CmpOp} {pos : Pos} {f g h : AEnv → Res Bv} {F F' : D → D → Option T} (hl : Qf G k sc l f) (hm : Qf G k sc m g) (hr : Qf G k sc r h) (hop : Op2 G (compareOp op) F) (hop' : Op2 G (compareOp op') F')
  (hb : behindInMarks op' r = false) : JI G k sc (.Compare l [op, op'] [m, r] pos) (Y7 F F' f g h) := by
 intro cx ok ρ S s rel
 show Qx G cx sc true (do testChain pos (← eval l cx.env) [op, op'] [eval m cx.env, markedBehindIn op' r (eval r cx.env)]) S s _ _
 rw [markedBehindIn_of_false hb]
 show Qx G cx sc true (do
  let a ← eval l cx.env
  let rv ← holding [a] (eval m cx.env)
  standAt pos
  let c ← holding [a, rv] (compareOp op a rv)
  release [a, rv] [c]
  if ← holding [c, rv] (truthy c) then testChain pos rv [op'] [eval r cx.env] else pure false) S s _ _
 unfold Y7
 refine Qx.bind (hl cx ok ρ S s rel) fun a ρ₁ va h₁ t₁ S₁ _ rel₁ ja x₁ v₁ => ?_
 refine Qx.bind (Qx.holding (hm cx ok ρ₁ S₁ { s with heap := h₁, toks := t₁ } rel₁)) fun b ρ₂ vb h₂ t₂ S₂ _ rel₂ jb x₂ v₂ => ?_
 have ja₂ : YD cx sc S₂ h₂ va a := YD.ext ja x₂ (v₂ rfl)
 refine Qx.standAt (Qx.ob fun x hx => Qx.ob fun y hy => Qx.ob fun t ht => ?_)
 intro Q E out
 obtain ⟨b', hb', out⟩ := out.ob
 obtain rfl := VE hb'
 refine wpAny_bind (wpAny_holding (hop cx sc (ok.mono (Nat.zero_le _)) ρ₂ S₂ { s with heap := h₂, toks := t₂ } va vb x y _ rel₂ (ja₂.rb rel₂ hx) (YD.rb jb rel₂ hy) ht _ _ ?_))
 intro c h₃ t₃ S₃ rel₃ j₃ x₃ v₃
 refine wpAny_bind (wpAny_release (wpAny_bind (wpAny_holding ?_)))
 cases j₃
 refine wpAny_truthy_bool ?_
 cases b' with
 | false => exact wpAny_pure (out _ h₃ t₃ S₃ rel₃ rfl x₃ v₃)
 | true => exact VY (s := { s with heap := h₃, toks := t₃ }) hr hop' ok rel₃ (YD.ext jb x₃ (v₃ rfl)) Q E (out.lift x₃ v₃)
end Mine
end

section
set_option Elab.async false
set_option maxRecDepth 100000
namespace Mine
open PySem
structure KpE (B h : Heap) (e : Addr) (g h' : Heap) : Prop where
 keep : ∀ b o, g.get? b = some o → b ≠ e → (o.cls ≠ .type "traceback" ∨ ∃ o₀, h.get? b = some o₀) → Kept h' b o
 base : ∀ b o, B.get? b = some o → g.get? b = some o → b ≠ e → (∃ o₀, h.get? b = some o₀) → h'.get? b = some o
 dom : ∀ b o, g.get? b = some o → ∃ o', h'.get? b = some o'
 kd : ∀ b o es n, g.get? b = some o → o.data = .dict es n → ∃ sl, h'.get? b = some { o with slots := sl }
theorem KpE.trans {B h : Heap} {e : Addr} {g₁ g₂ g₃ : Heap} (x : KpE B h e g₁ g₂) (y : KpE B h e g₂ g₃) : KpE B h e g₁ g₃ where
 keep := fun b o eb hb q => by
  obtain ⟨sl, e₁, k₁⟩ := x.keep b o eb hb q
  obtain ⟨sl', e₂, k₂⟩ := y.keep b _ e₁ hb q
  exact ⟨sl', e₂, fun hn => (k₂ hn).trans (k₁ hn)⟩
 base := fun b o eb eg hb q => y.base b o eb (x.base b o eb eg hb q) hb q
 dom := fun b o eb => let ⟨o', e'⟩ := x.dom b o eb; y.dom b o' e'
 kd := fun b o es n eb hd => by
  obtain ⟨sl, e₁⟩ := x.kd b o es n eb hd
  obtain ⟨sl', e₂⟩ := y.kd b _ es n e₁ hd
  exact ⟨sl', e₂⟩
theorem KpE.refl (B h : Heap) (e : Addr) (g : Heap) : KpE B h e g g := ⟨fun _ o eb _ _ => ⟨o.slots, eb, fun _ => rfl⟩, fun _ _ _ e _ _ => e, fun _ o eb => ⟨o, eb⟩, fun _ o _ _ eb _ => ⟨o.slots, eb⟩⟩
inductive FlyT (h h' : Heap) (e C : Addr) : Prop
 | mk (n : h.get? e = none) (oe : Obj) (vs : Array Value) (T : Addr) (oT : Obj) (ts : Array Value) (a : h'.get? e = some oe) (b : oe.cls = .ref C) (b' : oe.dict = none) (c : oe.data = .fields vs) (d : vs[2]? = some .none)
  (k1 : vs[1]? = some (.ref T)) (k2 : T ≠ e) (k3 : h.get? T = none) (k4 : h'.get? T = some oT) (k5 : oT.cls = .type "traceback") (k6 : oT.data = .fields ts) (k7 : 3 < ts.size) : FlyT h h' e C
theorem FlyT.fly {h h' : Heap} {e C : Addr} (x : FlyT h h' e C) : Fly h h' e C := by
 obtain ⟨n, oe, vs, T, oT, ts, a, b, b', c, d, k1, k2, k3, k4, k5, k6, k7⟩ := x
 exact ⟨n, oe, vs, a, b, b', c, d, .inr ⟨T, oT, ts, k1, k2, k3, k4, k5, k6, k7⟩⟩
theorem ON (f : Array Value → Array Value) (o : Obj) : (Obj.mapFields f o).dict = o.dict := by
 obtain ⟨c, d, dt, sl⟩ := o
 cases dt <;> rfl
theorem Gl {vs : Array Value} {x : Value} (h : vs[2]? = some .none) : (vs.setIfInBounds 1 x)[2]? = some .none := by
 rw [Array.getElem?_setIfInBounds_ne (by decide)]; exact h
section
variable {M : Model} {A : Around} {E : Value → Shared → Prop} {s : Shared} {B h : Heap} {fs : List Env} {env : Env} {e C : Addr}
theorem Bg {env env' : Env} (h : env.frame = env'.frame) : frameOf env = frameOf env' := by unfold frameOf; rw [h]
theorem FF.notFrame (ff : FF B s.heap fs) {b : Addr} {o : Obj} (eb : s.heap.get? b = some o) (hn : Ym o) : b ∉ fs.filterMap (·.frame) := fun hm => by
 obtain ⟨env, he, hf⟩ := List.mem_filterMap.mp hm
 obtain ⟨_, L, o', h1, _, h3, es, n, h4⟩ := ff env he
 rw [h1] at hf; cases hf
 rw [eb] at h3; cases h3
 exact hn es n h4
theorem BF {L : Addr} {oe : Obj} {vs : Array Value} {head : Value} {hadNext : Bool} {Q : Unit → Shared → Prop} (hfr : A.frames = some fs) (ff : FF B s.heap fs) (top : ∃ env₀ outer, fs = env₀ :: outer ∧ env.frame = env₀.frame) (hf : env.frame = some L)
  (hne : h.get? e = none) (dom : ∀ b o, h.get? b = some o → ∃ o', s.heap.get? b = some o') (he : s.heap.get? e = some oe) (hc : oe.cls = .ref C) (hdn : oe.dict = none) (hd : oe.data = .fields vs) (hsz : 1 < vs.size) (h2 : vs[2]? = some .none)
  (hQ : ∀ h', KpE B h e s.heap h' → FlyT h h' e C → Q () { s with heap := h' }) :
  wpAny M A (do let a ← frameOf env; let pl ← entryPlaceOf L hadNext; let b ← EntryCells.newEntry head a .none (rawInt L) .none pl; setField (.ref e) 1 b) Q E s := by
 obtain ⟨env₀, outer, rfl, hee⟩ := top
 rw [Bg hee]
 have hene : e ∉ (env₀ :: outer).filterMap (·.frame) := ff.notFrame he (.fields hd)
 refine wpAny_bind (wpAny_frameOf_fun (base := B) hfr ff.fun (hee.symm.trans hf) fun h₁ hs₁ => ?_)
 refine wpAny_bind (wpAny_entryPlaceOf fun pl hpl => ?_)
 unfold EntryCells.newEntry newFields
 refine wpAny_bind (wpAny_newObj_type ?_ (hpl.sizeOk5 _ _ _ _ _))
 have he₁ : h₁.get? e = some oe := (hs₁.2.1 e hene).trans he
 have he₂ := Heap.get?_push_of_some (h := h₁) { cls := .type "traceback", dict := none, data := .fields ([head, .ref L, .none, rawInt L, .none] ++ (if pl.isEmpty then List.replicate 6 Value.none else pl)).toArray } he₁
 refine wpAny_setField he₂ hd hsz (hQ _ ?_ ?_)
 ·have keep : ∀ b o, b ≠ e → h₁.get? b = some o → ((h₁.push { cls := .type "traceback", dict := none, data := .fields ([head, .ref L, .none, rawInt L, .none] ++ (if pl.isEmpty then List.replicate 6 Value.none else pl)).toArray }).update e (Obj.mapFields (·.setIfInBounds 1 (Value.ref h₁.objs.size)))).get? b = some o := fun b o hbe hb => by
   rw [Heap.get?_update_other _ _ (Ne.symm hbe)]
   exact Heap.get?_push_of_some _ hb
  refine ⟨fun b o eb hb _ => ?_, fun b o eB eb hb _ => ?_, fun b o eb => ?_, fun b o es n eb hbd => ?_⟩
  rotate_right
  ·have hb : b ≠ e := by rintro rfl; rw [he] at eb; cases eb; rw [hd] at hbd; cases hbd
   obtain ⟨sl, e₁⟩ := hs₁.2.2 b o eb
   exact ⟨sl, keep b _ hb e₁⟩
  ·obtain ⟨sl, e₁⟩ := hs₁.2.2 b o eb
   refine ⟨sl, keep b _ hb e₁, fun hn => ?_⟩
   have := hs₁.2.1 b (ff.notFrame eb hn)
   rw [eb, e₁] at this
   injection this with this
   have := congrArg Obj.slots this
   exact this
  ·refine keep b o hb ((hs₁.2.1 b fun hm => ?_).trans eb)
   obtain ⟨env', he', hf'⟩ := List.mem_filterMap.mp hm
   obtain ⟨_, L', o', h1', h2', _⟩ := ff env' he'
   rw [h1'] at hf'; cases hf'
   rw [h2'] at eB; cases eB
  ·by_cases hb : b = e
   ·subst hb; exact ⟨_, Heap.get?_update_self _ he₂ (Obj.isFreed_of_fields (Obj.data_mapFields hd _))⟩
   ·obtain ⟨sl, e₁⟩ := hs₁.2.2 b o eb
    exact ⟨_, keep b _ hb e₁⟩
 ·have hTe : h₁.objs.size ≠ e := Nat.ne_of_gt (Heap.lt_size he₁)
  refine ⟨hne, _, _, h₁.objs.size, _, _, Heap.get?_update_self _ he₂ (Obj.isFreed_of_fields (Obj.data_mapFields hd _)), (Obj.cls_mapFields _ _).trans hc, (ON _ _).trans hdn, Obj.data_mapFields hd _, Gl h2, by simp [hsz], hTe, ?_, (Heap.get?_update_other _ _ (Ne.symm hTe)).trans (Heap.get?_push_size h₁ rfl), rfl, rfl, ?_⟩
  ·cases q : h.get? h₁.objs.size with
   | none => rfl
   | some o =>
    obtain ⟨o', e'⟩ := dom _ _ q
    obtain ⟨sl, e₁⟩ := hs₁.2.2 _ o' e'
    exact absurd (Heap.lt_size e₁) (Nat.lt_irrefl _)
  ·simp only [List.size_toArray, List.length_append, List.length_cons, List.length_nil]; lia
theorem Vp {g : Heap} {T : Addr} {f : Obj → Obj} {oT : Obj} {ts : Array Value} (hT : g.get? T = some oT) (hc : oT.cls = .type "traceback") (hd : oT.data = .fields ts) (hTn : h.get? T = none) (hfr : (f oT).isFreed = false) : KpE B h e g (g.update T f) := by
 have ne : ∀ b o, g.get? b = some o → (o.cls ≠ .type "traceback" ∨ ∃ o₀, h.get? b = some o₀) → T ≠ b := fun b o eb q hb => by
  subst hb
  rcases q with q | ⟨o₀, q⟩
  ·rw [hT] at eb; cases eb; exact q hc
  ·rw [hTn] at q; cases q
 refine ⟨fun b o eb _ q => ⟨o.slots, (Heap.get?_update_other _ _ (ne b o eb q)).trans eb, fun _ => rfl⟩, fun b o _ eb _ q => (Heap.get?_update_other _ _ (ne b o eb (.inr q))).trans eb, fun b o eb => ?_, fun b o es n eb hbd => ⟨o.slots, (Heap.get?_update_other _ _ (by rintro rfl; rw [hT] at eb; cases eb; rw [hd] at hbd; cases hbd)).trans eb⟩⟩
 by_cases hb : T = b
 ·subst hb; rw [hT] at eb; cases eb; exact ⟨_, Heap.get?_update_self _ hT hfr⟩
 ·exact ⟨o, (Heap.get?_update_other _ _ hb).trans eb⟩
theorem Ue {Q : Unit → Shared → Prop} (hfr : A.frames = some fs) (ff : FF B s.heap fs) (top : ∃ env₀ outer, fs = env₀ :: outer ∧ env.frame = env₀.frame)
  (fly : Fly h s.heap e C) (dom : ∀ b o, h.get? b = some o → ∃ o', s.heap.get? b = some o') (hQ : ∀ h', KpE B h e s.heap h' → FlyT h h' e C → Q () { s with heap := h' }) :
  wpAny M A (noteFrame (.ref e) env) Q E s := by
 obtain ⟨L, hf⟩ : ∃ L, env.frame = some L := by
  obtain ⟨env₀, outer, rfl, hee⟩ := top
  obtain ⟨_, L, _, h1, _⟩ := ff env₀ (.head _)
  exact ⟨L, hee.trans h1⟩
 obtain ⟨hne, oe, vs, he, hc, hdn, hd, h2, ht⟩ := fly
 unfold noteFrame
 simp only [hf]
 rcases ht with h1 | ⟨T, oT, ts, h1, hTe, hTn, hT, hcT, hdT, h3⟩
 ·refine wpAny_bind (wpAny_field he hd h1 ?_)
  rw [if_neg (by decide)]
  exact BF hfr ff top hf hne dom he hc hdn hd (Array.getElem?_eq_some_iff.mp h1).1 h2 hQ
 ·refine wpAny_bind (wpAny_field he hd h1 ?_)
  rw [if_pos (show (Value.ref T != Value.none) = true from by simp)]
  refine wpAny_bind (wpAny_field hT hdT (x := ts[3]) (by simp [h3]) ?_)
  by_cases hq : (ts[3] == rawInt L) = true
  ·rw [if_pos hq]
   exact wpAny_pure (hQ s.heap (.refl ..) ⟨hne, oe, vs, T, oT, ts, he, hc, hdn, hd, h2, h1, hTe, hTn, hT, hcT, hdT, h3⟩)
  ·rw [if_neg hq]
   refine wpAny_bind (wpAny_setField hT hdT h3 ?_)
   have kp : KpE B h e s.heap (s.heap.update T (Obj.mapFields (·.setIfInBounds 3 Value.none))) := Vp hT hcT hdT hTn (Obj.isFreed_of_fields (Obj.data_mapFields hdT _))
   refine BF (h := h) (fs := fs) (B := B) (s := { s with heap := s.heap.update T (Obj.mapFields (·.setIfInBounds 3 Value.none)) }) hfr (fun env' he' => ?_) top hf hne (fun b o q => ?_) ((Heap.get?_update_other _ _ hTe).trans he) hc hdn hd (Array.getElem?_eq_some_iff.mp h1).1 h2
    fun h' k f => hQ h' (kp.trans k) f
   ·obtain ⟨a, L', o, b, c, d, es, n, k⟩ := ff env' he'
    refine ⟨a, L', o, b, c, (Heap.get?_update_other _ _ ?_).trans d, es, n, k⟩
    rintro rfl
    rw [hT] at d; cases d; rw [hdT] at k; cases k
   ·obtain ⟨o', q'⟩ := dom b o q
    exact kp.dom b o' q'
theorem Jc {Q : Unit → Shared → Prop} {fr : Option Addr} (fly : FlyT h s.heap e C) (hQ : ∀ h', KpE B h e s.heap h' → FlyT h h' e C → Q () { s with heap := h' }) : wpAny M A (setFlight (.ref e) fr) Q E s := by
 obtain ⟨hne, oe, vs, T, oT, ts, he, hc, hdn, hd, h2, h1, hTe, hTn, hT, hcT, hdT, h3⟩ := fly
 unfold setFlight
 refine wpAny_bind (wpAny_field he hd h1 ?_)
 rw [if_pos (show (Value.ref T != Value.none) = true from by simp)]
 refine wpAny_setField hT hdT h3 (hQ _ (Vp hT hcT hdT hTn (Obj.isFreed_of_fields (Obj.data_mapFields hdT _))) ?_)
 refine ⟨hne, oe, vs, T, _, _, (Heap.get?_update_other _ _ hTe).trans he, hc, hdn, hd, h2, h1, hTe, hTn, Heap.get?_update_self _ hT (Obj.isFreed_of_fields (Obj.data_mapFields hdT _)), (Obj.cls_mapFields _ _).trans hcT, Obj.data_mapFields hdT _, by simp [h3]⟩
theorem Ow {Q : Unit → Shared → Prop} (hfr : A.frames = some fs) (ff : FF B s.heap fs) (top : ∃ env₀ outer, fs = env₀ :: outer ∧ env.frame = env₀.frame)
  (fly : Fly h s.heap e C) (dom : ∀ b o, h.get? b = some o → ∃ o', s.heap.get? b = some o') (hQ : ∀ h', KpE B h e s.heap h' → FlyT h h' e C → Q () { s with heap := h' }) :
  wpAny M A (leaving env (.ref e)) Q E s := by
 unfold leaving
 refine wpAny_bind (Ue hfr ff top fly dom fun h₁ k₁ f₁ => ?_)
 exact Jc (s := { s with heap := h₁ }) (B := B) f₁ fun h₂ k₂ f₂ => hQ h₂ (k₁.trans k₂) f₂
end
end Mine
end

section
set_option Elab.async false
set_option maxRecDepth 100000
namespace Mine
open PySem
theorem KpE.carry {B h g h' : Heap} {e C : Addr} {S : Addr → Prop} (k : KpE B h e g h') (f : Fly h g e C) (f' : FlyT h h' e C) : Carry S g S h' where
 tup := fun e' hc hd => by
  obtain ⟨_, oe, vs, he, _, _, hde, _⟩ := f
  obtain ⟨sl, q, hs⟩ := k.keep _ _ e' (by rintro rfl; rw [he] at e'; cases e'; rw [hde] at hd; cases hd) (.inl (by rw [hc]; simp))
  rw [hs (.seq hd)] at q; exact q
 list := fun s e' hc hd => by
  refine ⟨s, ?_⟩
  obtain ⟨_, oe, vs, he, _, _, hde, _⟩ := f
  obtain ⟨sl, q, hs⟩ := k.keep _ _ e' (by rintro rfl; rw [he] at e'; cases e'; rw [hde] at hd; cases hd) (.inl (by rw [hc]; simp))
  rw [hs (.seq hd)] at q; exact q
 range := fun e' => by
  obtain ⟨_, oe, vs, he, hce, _⟩ := f
  obtain ⟨sl, q, hs⟩ := k.keep _ _ e' (by rintro rfl; unfold IsRange at e'; rw [he] at e'; cases e'; cases hce) (.inl (by simp))
  have hs := hs (.fields rfl)
  simp only at hs
  subst hs
  exact q
 exc := fun {a} {o} {vs} {C'} e' hc hn hd r => by
  by_cases ha : a = e
  ·subst ha
   obtain ⟨_, oe, vs, he, hce, _⟩ := f
   rw [he] at e'; cases e'
   rw [hc] at hce; cases hce
   obtain ⟨_, oe', vs', _, _, _, h1, h2, hn', h3, h4, _⟩ := f'
   exact .exc h1 h2 hn' h3 h4
  ·obtain ⟨sl, q, hs⟩ := k.keep _ _ e' ha (.inl (by rw [hc]; simp))
   rw [hs (.fields hd)] at q
   exact .exc q hc hn hd r
 dom := fun a o e' => k.dom a o e'
 obj := fun {a dx C' m} s1 s2 e' n => by
  obtain ⟨_, oe, vs, he, _, _, hde, _⟩ := f
  obtain ⟨sl, q, hs⟩ := k.keep _ _ e' (by rintro rfl; rw [he] at e'; cases e'; cases hde) (.inl (by simp))
  have hs := hs (fun es m q => by cases q)
  simp only at hs
  subst hs
  obtain ⟨o, es, ep, ho, hd, r⟩ := n
  obtain ⟨sl, q'⟩ := k.kd _ _ _ _ ho hd
  exact ⟨s1, s2, q, _, es, ep, q', hd, r⟩
theorem RV.kpE {B h g h' : Heap} {e C : Addr} {S : Addr → Prop} (k : KpE B h e g h') (f : Fly h g e C) (f' : FlyT h h' e C) {v : Value} {d : D} (q : RV S g v d) : RV S h' v d := q.map (k.carry f f')
section
variable {G : Gd} {cx : Cx} {sc : Scope} {ρ ρ₀ : AEnv} {S S₀ : Addr → Prop} {h g h' : Heap} {e C : Addr}
theorem KpE.ns (k : KpE G.B h e g h') (f : Fly h g e C) {a : Addr} {m : Str → Option Value} (hk : ∃ o, h.get? a = some o) (n : g.Ns a m) : h'.Ns a m := by
 obtain ⟨o, es, ep, ho, hd, r⟩ := n
 obtain ⟨_, oe, vs, he, _, _, hde, _⟩ := f
 obtain ⟨sl, q, _⟩ := k.keep a o ho (by rintro rfl; rw [he] at ho; cases ho; rw [hde] at hd; cases hd) (.inr hk)
 exact ⟨_, es, ep, q, hd, r⟩
theorem KpE.cell (k : KpE G.B h e g h') (f : Fly h g e C) {a : Addr} {v : Option Value} (hk : ∃ o, h.get? a = some o) (n : g.IsCell a v) : h'.IsCell a v := by
 obtain ⟨o, ho, hd⟩ := n
 obtain ⟨_, oe, vs, he, _, _, hde, _⟩ := f
 obtain ⟨sl, q, _⟩ := k.keep a o ho (by rintro rfl; rw [he] at ho; cases ho; rw [hde] at hd; cases hd) (.inr hk)
 exact ⟨_, q, hd⟩
theorem Rel.var_kpE (r₀ : Rel G cx sc ρ₀ S₀ h) (k : KpE G.B h e g h') (f : Fly h g e C) {x : Str} {v : Value} (q : Var cx.env g x v) : Var cx.env h' x v := by
 rcases q with ⟨a, m, b, c⟩ | ⟨a, c, b, d⟩
 ·exact .inl ⟨a, m, k.ns f (let ⟨_, o, _, _, q, _⟩ := r₀.ns; ⟨o, q⟩) b, c⟩
 ·exact .inr ⟨a, c, b, k.cell f (let ⟨_, o, q, _⟩ := r₀.cells x c b; ⟨o, q⟩) d⟩
theorem Rel.var_back (r₀ : Rel G cx sc ρ₀ S₀ h) (r : Rel G cx sc ρ S g) (k : KpE G.B h e g h') (f : Fly h g e C) {x : Str} {v : Value} (q : Var cx.env h' x v) : Var cx.env g x v := by
 rcases q with ⟨a, m, b, c⟩ | ⟨a, c, b, d⟩
 ·obtain ⟨m₀, n₀⟩ := r.ns
  exact .inl ⟨a, m₀, n₀, by rw [(k.ns f (let ⟨_, o, _, _, q, _⟩ := r₀.ns; ⟨o, q⟩) n₀).agree b x]; exact c⟩
 ·obtain ⟨v₀, i₀⟩ := r.cells x c b
  exact .inr ⟨a, c, b, by rw [IsCell.inj d (k.cell f (let ⟨_, o, q, _⟩ := r₀.cells x c b; ⟨o, q⟩) i₀)]; exact i₀⟩
theorem Rel.kpE (r₀ : Rel G cx sc ρ₀ S₀ h) (r : Rel G cx sc ρ S g) (k : KpE G.B h e g h') (f : Fly h g e C) (f' : FlyT h h' e C) : Rel G cx sc ρ S h' where
 base := fun b o q => k.base b o q (r.base b o q) (by rintro rfl; have := r₀.base _ _ q; rw [f.1] at this; cases this) ⟨o, r₀.base b o q⟩
 keep := fun b o q => by
  obtain ⟨sl, q₁, k₁⟩ := r.keep b o q
  obtain ⟨o₀, q₀⟩ := r₀.keep.dom q
  obtain ⟨sl', q₂, k₂⟩ := k.keep b _ q₁ (by rintro rfl; rw [f.1] at q₀; cases q₀) (.inr ⟨o₀, q₀⟩)
  exact ⟨sl', q₂, fun hn => (k₂ hn).trans (k₁ hn)⟩
 ff := fun env he => by
  obtain ⟨a, L, o, b, c, d, es, n, q⟩ := r.ff env he
  obtain ⟨_, L', o₀, b', _, d', _⟩ := r₀.ff env he
  rw [b] at b'; cases b'
  obtain ⟨sl', q₂, k₂⟩ := k.keep L _ d (by rintro rfl; rw [f.1] at d'; cases d') (.inr ⟨o₀, d'⟩)
  exact ⟨a, L, _, b, c, q₂, es, n, q⟩
 ns := let ⟨m, n⟩ := r.ns; ⟨m, k.ns f (let ⟨_, o, _, _, q, _⟩ := r₀.ns; ⟨o, q⟩) n⟩
 cells := fun x c q => let ⟨v, n⟩ := r.cells x c q; ⟨v, k.cell f (let ⟨_, o, q', _⟩ := r₀.cells x c q; ⟨o, q'⟩) n⟩
 sdom := fun b q => let ⟨o, e⟩ := r.sdom b q; k.dom b o e
 sok := r.sok
 sloc := r.sloc
 scell := r.scell
 live := fun x a hd q => let ⟨o, e⟩ := r.live x a hd (r₀.var_back r k f q); k.dom a o e
 clean := r.clean
 hok := fun v q => let ⟨C, e⟩ := r.hok v q; ⟨C, RV.kpE k f f' e⟩
 vars := fun i x t hx ht => by
  obtain ⟨v, hv, tv⟩ := r.vars i x t hx ht
  refine ⟨v, r₀.var_kpE k f hv, ?_⟩
  cases t with
  | sh d => exact RV.kpE k f f' tv
  | ow m d =>
   obtain ⟨a, rfl, ns, ow, n⟩ := tv
   refine ⟨a, rfl, ns, ?_, n⟩
   rcases ow.cases with ow | ⟨ks, ds, rfl, ow⟩
   ·obtain ⟨o', e'', hcl, vs', n', hd'⟩ := ow.cls
    refine (ow.map (k.carry f f') fun o q hn => ?_).v
    rw [e''] at q; cases q
    obtain ⟨_, oe, ws, he, _, _, hde, _⟩ := f
    obtain ⟨sl, q', hs⟩ := k.keep _ _ e'' (by rintro rfl; rw [he] at e''; cases e''; rw [hde] at hd'; cases hd') (.inl (by rw [hcl]; simp))
    rw [hs hn] at q'; exact q'
   ·refine DictAt.map (k.carry f f') (fun o q => ?_) ow
    obtain ⟨o', es, nn, _, e'', _, hd', _⟩ := ow
    rw [e''] at q; cases q
    exact k.kd _ _ _ _ e'' hd'
 inj := fun i j x y m m' d d' v hx hy hi hj a b => r.inj i j x y m m' d d' v hx hy hi hj (r₀.var_back r k f a) (r₀.var_back r k f b)
 dok := r.dok.back fun _ _ q => r₀.var_back r k f q
theorem Ext.kpE (x : Ext S₀ h S g) (k : KpE G.B h e g h') (f : Fly h g e C) : Ext S₀ h S h' :=
 ⟨x.sub, fun b o eb q => by
  obtain ⟨sl, e₁, k₁⟩ := x.keep b o eb q
  obtain ⟨sl', e₂, k₂⟩ := k.keep b _ e₁ (by rintro rfl; rw [f.1] at eb; cases eb) (.inr ⟨o, eb⟩)
  exact ⟨sl', e₂, fun hn => (k₂ hn).trans (k₁ hn)⟩, fun b o eb => let ⟨o', e'⟩ := x.dom b o eb; k.dom b o' e'⟩
end
structure FnCx (G : Gd) (cx : Cx) : Prop where
 bh : G.B.StaysIn cx.h₀
 lnew : cx.h₀.get? cx.env.locals = none
 cap : ∀ x y c, cx.env.cells.lookup x = some c → cx.env.cells.lookup y = some c → cx.h₀.get? c = none → x = y
 loc : ∀ x c, cx.env.cells.lookup x = some c → c ≠ cx.env.locals
section
variable {G : Gd} {cx : Cx} {sc : Scope} {ρ : AEnv} {S : Addr → Prop} {h h' : Heap}
theorem Dp {loc : Addr} {oL : Obj} (e : h.get? loc = some oL) (hi : ¬ Imm oL) (hs : ¬ S loc) (k : Heap.SameBut loc h h') (e' : ∃ o, h'.get? loc = some o) : Ext S h S h' :=
 ⟨fun _ q => q, fun b o eb q => ⟨o.slots, (k.2 b (by rintro rfl; rw [e] at eb; cases eb; exact q.elim hs hi)).trans eb, fun _ => rfl⟩, fun b o eb => by
  by_cases hb : b = loc
  ·subst hb; exact e'
  ·exact ⟨o, (k.2 b hb).trans eb⟩⟩
theorem Rel.store {loc : Addr} {oL : Obj} {i : Nat} {x : Str} {v : Value} {t : T} (r : Rel G cx sc ρ S h) (bh : G.B.StaysIn cx.h₀) (nd : (Qg sc).Nodup) (hx : (Qg sc)[i]? = some x)
  (e : h.get? loc = some oL) (hi : ¬ Imm oL) (hq : ∀ vs n, oL.data ≠ .seq vs n) (hs : ¬ S loc) (hn : cx.h₀.get? loc = none) (hdl : loc = cx.env.locals ∨ ∀ es n, oL.data ≠ .dict es n) (k : Heap.SameBut loc h h')
  (e' : ∃ o, h'.get? loc = some o ∧ ((∃ es n, oL.data = .dict es n) → ∃ es n, o.data = .dict es n)) (ns : ∃ m, h'.Ns cx.env.locals m) (cl : ∀ y c, cx.env.cells.lookup y = some c → ∃ v, h'.IsCell c v)
  (hv : Var cx.env h' x v) (hb : ∀ y w, y ≠ x → Var cx.env h y w → Var cx.env h' y w) (hf : ∀ y w, y ≠ x → Var cx.env h' y w → Var cx.env h y w) (hcl : Xn x = false ∨ ∃ d, t = .sh d) (tv : TSt cx S h v t) :
  Rel G cx sc (ρ.set i (some t)) S h' ∧ Ext S h S h' := by
 obtain ⟨oL', eL', dL'⟩ := e'
 have x' : Ext S h S h' := Dp e hi hs k ⟨_, eL'⟩
 have ow' : ∀ {a d}, ((∃ ks ds, d = .dict ks ds) → a ≠ cx.env.locals) → UB S h a d → UB S h' a d := fun {a d} hal q => by
  have hne : a ≠ loc := by
   rintro rfl
   rcases q.cases with q | ⟨ks, ds, rfl, q⟩
   ·obtain ⟨o', ho', _, vs, n, hd⟩ := q.cls
    rw [e] at ho'; cases ho'; exact hq vs n hd
   ·rcases hdl with hdl | hdl
    ·exact hal ⟨_, _, rfl⟩ hdl
    ·obtain ⟨o', es, n, _, ho', _, hd, _⟩ := q
     rw [e] at ho'; cases ho'; exact hdl es n hd
  exact q.ext x' fun o eo => ⟨o.slots, (k.2 a hne).trans eo, fun _ => rfl⟩
 have lt : i < (Qg sc).length := (List.getElem?_eq_some_iff.mp hx).1
 have neName : ∀ (j : Nat) (y : Str), (Qg sc)[j]? = some y → j ≠ i → y ≠ x := fun j y hy hj q => by
  subst q
  obtain ⟨h1, e1⟩ := List.getElem?_eq_some_iff.mp hx
  obtain ⟨h2, e2⟩ := List.getElem?_eq_some_iff.mp hy
  exact hj ((List.getElem_inj nd).mp (e2.trans e1.symm))
 have live : ∀ a, v = .ref a → ∃ o, h.get? a = some o := fun a ea => by
  cases t with
  | sh d => exact RV.live tv a ea
  | ow m d => obtain ⟨b, rfl, _, ow, _⟩ := tv; cases ea; obtain ⟨o, ho, _⟩ := ow.live; exact ⟨o, ho⟩
 refine ⟨⟨fun b o q => (k.2 b (by rintro rfl; rw [bh _ _ q] at hn; cases hn)).trans (r.base b o q), fun b o q => ?_, fun env he => ?_, ns, cl, fun b q => let ⟨o, eo⟩ := r.sdom b q; x'.dom b o eo, r.sok, r.sloc, r.scell, fun y a hdy q => ?_, fun j y m d hy hj => ?_, fun v q => let ⟨C, e⟩ := r.hok v q; ⟨C, e.ext x'⟩, fun j y u hy hu => ?_, fun j l y z m m' d d' u hy hz hj hl a b => ?_, fun j y m ks ds hy hj hvy => ?_⟩, x'⟩
 rotate_right
 ·by_cases hji : j = i
  ·subst hji
   rw [hx] at hy; cases hy
   have hjl : j < ρ.length := by
    by_cases q : j < ρ.length
    ·exact q
    ·rw [List.getElem?_eq_none (by rw [List.length_set]; exact Nat.le_of_not_lt q)] at hj; cases hj
   rw [List.getElem?_set_self hjl] at hj; cases hj
   obtain ⟨a', rfl, _, _, _, _, hal⟩ := tv
   have := Var.inj hv hvy
   injection this with this
   exact hal ⟨_, _, rfl⟩ this
  ·rw [List.getElem?_set_ne (Ne.symm hji)] at hj
   exact r.dok j y m ks ds hy hj (hf y _ (neName j y hy hji) hvy)
 ·obtain ⟨sl, q₁, k₁⟩ := r.keep b o q
  exact ⟨sl, (k.2 b (by rintro rfl; rw [q] at hn; cases hn)).trans q₁, k₁⟩
 ·obtain ⟨a, L, o, b, c, d, es, n, q⟩ := r.ff env he
  by_cases hL : L = loc
  ·subst hL
   rw [e] at d; cases d
   obtain ⟨es', n', q'⟩ := dL' ⟨es, n, q⟩
   exact ⟨a, L, _, b, c, eL', es', n', q'⟩
  ·exact ⟨a, L, o, b, c, (k.2 L hL).trans d, es, n, q⟩
 ·by_cases hy : y = x
  ·subst hy
   obtain ⟨o, eo⟩ := live a (Var.inj hv q)
   exact x'.dom a o eo
  ·obtain ⟨o, eo⟩ := r.live y a hdy (hf y _ hy q)
   exact x'.dom a o eo
 ·by_cases hji : j = i
  ·subst hji
   rw [hx] at hy; cases hy
   rcases hcl with hcl | ⟨d', rfl⟩
   ·exact hcl
   ·have hjl : j < ρ.length := by
     by_cases q : j < ρ.length
     ·exact q
     ·rw [List.getElem?_eq_none (by rw [List.length_set]; exact Nat.le_of_not_lt q)] at hj; cases hj
    rw [List.getElem?_set_self hjl] at hj; cases hj
  ·rw [List.getElem?_set_ne (Ne.symm hji)] at hj
   exact r.clean j y m d hy hj
 ·by_cases hj : j = i
  ·subst hj
   rw [hx] at hy; cases hy
   by_cases hl : j < ρ.length
   ·rw [List.getElem?_set_self hl] at hu; cases hu
    refine ⟨v, hv, ?_⟩
    cases t with
    | sh d => exact RV.ext x' tv
    | ow m d => obtain ⟨a, rfl, n1, ow, n2, _, hal⟩ := tv; exact ⟨a, rfl, n1, ow' hal ow, fun _ => n2⟩
   ·rw [List.getElem?_eq_none (by rw [List.length_set]; exact Nat.le_of_not_lt hl)] at hu; cases hu
  ·rw [List.getElem?_set_ne (Ne.symm hj)] at hu
   obtain ⟨w, hw, tw⟩ := r.vars j y u hy hu
   refine ⟨w, hb y w (neName j y hy hj) hw, ?_⟩
   cases u with
   | sh d => exact RV.ext x' tw
   | ow m d =>
    obtain ⟨a, rfl, n1, ow, n2⟩ := tw
    refine ⟨a, rfl, n1, ow' ?_ ow, n2⟩
    rintro ⟨ks, ds, rfl⟩ rfl
    exact r.dok j y m ks ds hy hu hw
 ·by_cases hji : j = i <;> by_cases hli : l = i
  ·rw [hji, hli]
  ·exfalso
   subst hji
   rw [hx] at hy; cases hy
   rw [List.getElem?_set_ne (Ne.symm hli)] at hl
   have hjl : j < ρ.length := by
    by_cases q : j < ρ.length
    ·exact q
    ·rw [List.getElem?_eq_none (by rw [List.length_set]; exact Nat.le_of_not_lt q)] at hj; cases hj
   rw [List.getElem?_set_self hjl] at hj; cases hj
   obtain ⟨a', rfl, _, _, _, nv, _⟩ := tv
   rw [Var.inj a hv] at b
   exact nv z (r.clean l z m' d' hz hl) (hf z _ (neName l z hz hli) b)
  ·exfalso
   subst hli
   rw [hx] at hz; cases hz
   rw [List.getElem?_set_ne (Ne.symm hji)] at hj
   have hjl : l < ρ.length := by
    by_cases q : l < ρ.length
    ·exact q
    ·rw [List.getElem?_eq_none (by rw [List.length_set]; exact Nat.le_of_not_lt q)] at hl; cases hl
   rw [List.getElem?_set_self hjl] at hl; cases hl
   obtain ⟨a', rfl, _, _, _, nv, _⟩ := tv
   rw [Var.inj b hv] at a
   exact nv y (r.clean j y m d hy hj) (hf y _ (neName j y hy hji) a)
  ·rw [List.getElem?_set_ne (Ne.symm hji)] at hj
   rw [List.getElem?_set_ne (Ne.symm hli)] at hl
   exact r.inj j l y z m m' d d' u hy hz hj hl (hf y _ (neName j y hy hji) a) (hf z _ (neName l z hz hli) b)
theorem Ww {i : Nat} {x : Str} {v : Value} {t : T} {s : Shared} (ok : CxOk G cx sc 0) (fn : FnCx G cx) (r : Rel G cx sc ρ S s.heap) (hx : (Qg sc)[i]? = some x) (hk : sc.names.lookup x = some .local ∨ (sc.names.lookup x = some .cell ∧ ∃ c, cx.env.cells.lookup x = some c ∧ cx.h₀.get? c = none)) (hcl : Xn x = false ∨ ∃ d, t = .sh d) (tv : TSt cx S s.heap v t) :
  Qx G cx sc false (storeName cx.env x v) S s (fun _ _ _ (_ : Unit) => True) (.ok () (ρ.set i (some t))) := by
 intro Q E out
 have hkf : cx.env.scope.kind = .function := by rw [ok.hsc]; exact ok.hk
 have kd : ∀ y, cx.env.kindOf y = sc.names.lookup y := fun y => by unfold Env.kindOf; rw [ok.hsc]
 rcases hk with hk | ⟨hk, hc⟩
 ·obtain ⟨m, hm⟩ := r.ns
  have hm0 := hm
  obtain ⟨oL, es, ep, eL, dL, _⟩ := hm0
  refine wpAny_storeName_local ((kd x).trans hk) hm (fun h' n' k => ?_) (by rw [hkf]; rfl)
  have n'' := n'
  obtain ⟨oL', es', ep', eL', dL', _⟩ := n''
  have cellsame : ∀ y c, cx.env.cells.lookup y = some c → ∀ w, s.heap.IsCell c w → h'.IsCell c w := fun y c q w n => n.sameBut k (fn.loc y c q)
  have vx : Var cx.env h' x v := .inl ⟨(kd x).trans hk, _, n', by simp⟩
  obtain ⟨r', x'⟩ := r.store (loc := cx.env.locals) (i := i) (x := x) (v := v) (t := t) fn.bh ok.nodup hx eL (by rintro (⟨_, vs, n, q⟩ | ⟨vs, q⟩) <;> (rw [dL] at q; cases q)) (fun vs n q => by rw [dL] at q; cases q) r.sloc fn.lnew (.inl rfl) k
   ⟨oL', eL', fun _ => ⟨es', ep', dL'⟩⟩ ⟨_, n'⟩ (fun y c q => let ⟨w, n⟩ := r.cells y c q; ⟨w, cellsame y c q w n⟩) vx
   (fun y w hy q => by
    rcases q with ⟨a, m₁, b, c⟩ | ⟨a, c, b, d⟩
    ·refine .inl ⟨a, _, n', ?_⟩
     rw [if_neg hy, ← b.agree hm y]; exact c
    ·exact .inr ⟨a, c, b, cellsame y c b _ d⟩)
   (fun y w hy q => by
    rcases q with ⟨a, m₁, b, c⟩ | ⟨a, c, b, d⟩
    ·refine .inl ⟨a, m, hm, ?_⟩
     have := b.agree n' y
     rw [if_neg hy] at this
     rw [← this]; exact c
    ·obtain ⟨w₀, n₀⟩ := r.cells y c b
     exact .inr ⟨a, c, b, by rw [IsCell.inj d (cellsame y c b _ n₀)]; exact n₀⟩) hcl tv
  exact out () h' _ S r' trivial x' fun q => by cases q
 ·obtain ⟨c, hc, hcn⟩ := hc
  obtain ⟨w₀, n₀⟩ := r.cells x c hc
  have n₁ := n₀
  obtain ⟨oL, eL, dL⟩ := n₁
  refine wpAny_storeName_cell hkf ((kd x).trans hk) hc n₀ (fun h' n' k => ?_)
  have n'' := n'
  obtain ⟨oL', eL', dL'⟩ := n''
  have hcloc : c ≠ cx.env.locals := fn.loc x c hc
  have nsame : ∀ m, s.heap.Ns cx.env.locals m → h'.Ns cx.env.locals m := fun m n => n.sameBut k (Ne.symm hcloc)
  have cellsame : ∀ y c', y ≠ x → cx.env.cells.lookup y = some c' → ∀ w, s.heap.IsCell c' w → h'.IsCell c' w := fun y c' hy q w n => n.sameBut k (by rintro rfl; exact hy (fn.cap y x c' q hc hcn))
  obtain ⟨r', x'⟩ := r.store (loc := c) (i := i) (x := x) (v := v) (t := t) fn.bh ok.nodup hx eL (by rintro (⟨_, vs, n, q⟩ | ⟨vs, q⟩) <;> (rw [dL] at q; cases q)) (fun vs n q => by rw [dL] at q; cases q) (r.scell x c hc) hcn (.inr fun es n q => by rw [dL] at q; cases q) k
   ⟨oL', eL', fun q => by obtain ⟨_, _, q⟩ := q; rw [dL] at q; cases q⟩ (let ⟨m, n⟩ := r.ns; ⟨m, nsame m n⟩)
   (fun y c' q => by
    by_cases hy : y = x
    ·subst hy; rw [hc] at q; cases q; exact ⟨_, n'⟩
    ·obtain ⟨w, n⟩ := r.cells y c' q; exact ⟨w, cellsame y c' hy q w n⟩) (.inr ⟨.inl ((kd x).trans hk), c, hc, n'⟩)
   (fun y w hy q => by
    rcases q with ⟨a, m₁, b, c'⟩ | ⟨a, c', b, d⟩
    ·exact .inl ⟨a, m₁, nsame m₁ b, c'⟩
    ·exact .inr ⟨a, c', b, cellsame y c' hy b _ d⟩)
   (fun y w hy q => by
    rcases q with ⟨a, m₁, b, c'⟩ | ⟨a, c', b, d⟩
    ·obtain ⟨m₀, n₀⟩ := r.ns
     refine .inl ⟨a, m₀, n₀, ?_⟩
     rw [(nsame m₀ n₀).agree b y]; exact c'
    ·obtain ⟨w₀, n₀⟩ := r.cells y c' b
     exact .inr ⟨a, c', b, by rw [IsCell.inj d (cellsame y c' hy b _ n₀)]; exact n₀⟩) hcl tv
  exact out () h' s.toks S r' trivial x' fun q => by cases q
end
end Mine
end

section
set_option Elab.async false
set_option maxRecDepth 100000
namespace Mine
open PySem
inductive Fl where
 | next
 | brk
 | cont
 | ret (t : T)
noncomputable def FG (cx : Cx) (S : Addr → Prop) (h : Heap) (v : Value) : T → Prop
 | .sh d => RV S h v d
 | .ow _ d => ∃ a, v = .ref a ∧ ¬ S a ∧ X2 S h a d ∧ cx.h₀.get? a = none
theorem JJ.ret {cx : Cx} {S : Addr → Prop} {h : Heap} {v : Value} {t : T} (q : JJ cx S h v t) : FG cx S h v t := by
 cases t with
 | sh d => exact q
 | ow m d => obtain ⟨a, e, n, o, k, _⟩ := q; exact ⟨a, e, n, o, k⟩
noncomputable def FlJ (cx : Cx) (S : Addr → Prop) (h : Heap) : Flow → Fl → Prop
 | .next, .next => True
 | .brk, .brk => True
 | .cont, .cont => True
 | .ret v, .ret t => FG cx S h v t
 | _, _ => False
structure FnOk (G : Gd) (cx : Cx) : Prop extends FnCx G cx where
 has : ∀ x, cx.env.kindOf x = some .cell → ∃ c, cx.env.cells.lookup x = some c ∧ cx.h₀.get? c = none
noncomputable def Jd (G : Gd) (k : Nat) (sc : Scope) (st : Stmt) (f : AEnv → Res Fl) : Prop :=
 ∀ cx, CxOk G cx sc k → FnOk G cx → ∀ ρ S s, Rel G cx sc ρ S s.heap → Qx G cx sc false (exec st cx.env) S s (fun S' h' a b => FlJ cx S' h' a b) (f ρ)
noncomputable def Yt (G : Gd) (k : Nat) (sc : Scope) (sts : List Stmt) (f : AEnv → Res Fl) : Prop :=
 ∀ cx, CxOk G cx sc k → FnOk G cx → ∀ ρ S s, Rel G cx sc ρ S s.heap → Qx G cx sc false (execs sts cx.env) S s (fun S' h' a b => FlJ cx S' h' a b) (f ρ)
noncomputable def QF : AEnv → Res Fl := fun ρ => .ok .next ρ
noncomputable def Qr (f g : AEnv → Res Fl) : AEnv → Res Fl := fun ρ => (f ρ).bind fun fl ρ₁ => match fl with
 | .next => g ρ₁
 | fl => .ok fl ρ₁
noncomputable def sIf (t : AEnv → Res Bool) (a b : AEnv → Res Fl) : AEnv → Res Fl := fun ρ => (t ρ).bind fun c ρ₁ => if c then a ρ₁ else b ρ₁
noncomputable def Za (f : AEnv → Res T) : AEnv → Res Fl := fun ρ => (f ρ).bind fun t ρ₁ => .ok (.ret t) ρ₁
noncomputable def U1 (i : Nat) : AEnv → Res Fl := fun ρ => match ρ[i]? with
 | some (some (.sh d)) => .ok (.ret (.sh d)) ρ
 | some (some (.ow true (.list ds))) => .ok (.ret (.ow true (.list ds))) ρ
 | _ => .stuck
noncomputable def Zb (f : AEnv → Res Bv) : AEnv → Res Fl := fun ρ => (f ρ).bind fun _ ρ₁ => .ok .next ρ₁
noncomputable def Qy (i : Nat) (f : AEnv → Res T) : AEnv → Res Fl := fun ρ => (f ρ).bind fun t ρ₁ => .ok .next (ρ₁.set i (some t))
section
variable {G : Gd} {k : Nat} {sc : Scope}
theorem Qh : Yt G k sc [] QF := fun _ _ _ _ _ _ r => Qx.pure r trivial
theorem Qc {st : Stmt} {rest : List Stmt} {f g : AEnv → Res Fl} (h1 : Jd G k sc st f) (h2 : Yt G k sc rest g) : Yt G k sc (st :: rest) (Qr f g) := by
 intro cx ok fn ρ S s r
 rw [execs_cons]
 refine Qx.bind (h1 cx ok fn ρ S s r) fun fl ρ₁ a h₁ t₁ S₁ _ r₁ j x₁ v₁ => ?_
 cases a <;> cases fl <;> first | exact j.elim | exact h2 cx ok fn ρ₁ S₁ _ r₁ | exact Qx.pure r₁ j
theorem Xq {test : Expr} {body orelse : List Stmt} {pos : Pos} {t : AEnv → Res Bool} {a b : AEnv → Res Fl} (ht : JI G k sc test t) (ha : Yt G k sc body a) (hb : Yt G k sc orelse b) : Jd G k sc (.If test body orelse pos) (sIf t a b) := by
 intro cx ok fn ρ S s r
 rw [exec_If]
 refine Qx.standAt (Qx.bind (ht cx ok ρ S s r).loose fun c ρ₁ a' h₁ t₁ S₁ _ r₁ j x₁ v₁ => ?_)
 subst j
 cases a'
 ·exact hb cx ok fn ρ₁ S₁ _ r₁
 ·exact ha cx ok fn ρ₁ S₁ _ r₁
theorem Qv {e : Expr} {pos : Pos} {f : AEnv → Res T} (h : Sim G k sc e f) : Jd G k sc (.Return (some e) pos) (Za f) := by
 intro cx ok fn ρ S s r
 rw [exec_Return_some]
 refine Qx.standAt (Qx.bind (h cx ok ρ S s r).loose fun t ρ₁ v h₁ t₁ S₁ _ r₁ j x₁ v₁ => ?_)
 exact Qx.pure r₁ j.ret
set_option tactic.hygienic true in
theorem O0 {x : Str} {p pos : Pos} {i : Nat} (hx : (Qg sc)[i]? = some x) (hd : (x == ("__debug__" : Str)) = false) (hn : (x == ("__classdict__" : Str)) = false) : Jd G k sc (.Return (some (.Name x p)) pos) (U1 i) := by
 intro cx ok fn ρ S s r
 rw [exec_Return_some]
 refine Qx.standAt ?_
 intro Q E out
 unfold U1 at out
 split at out
 ·rename_i d ht
  obtain ⟨v, hv, tv⟩ := r.vars i x _ hx ht
  exact wpAny_bind (wpAny_Name (Zr (ok.mono (Nat.zero_le _)) hv hn rfl (wpAny_pure (out (.ret v) s.heap s.toks S r tv (Ext.refl ..) fun _ => QA.refl _ _))) hd)
 ·rename_i d ht
  obtain ⟨v, hv, a, rfl, n1, ow, n2⟩ := r.vars i x _ hx ht
  exact wpAny_bind (wpAny_Name (Zr (ok.mono (Nat.zero_le _)) hv hn rfl (wpAny_pure (out (.ret (.ref a)) s.heap s.toks S r ⟨a, rfl, n1, ow, n2 rfl⟩ (Ext.refl ..) fun _ => QA.refl _ _))) hd)
 ·exact out.elim
theorem Kj {e : Expr} {pos : Pos} {f : AEnv → Res Bv} (h : Qf G k sc e f) (hs : ∀ env : Env, swapsWith e none pos.line env = pure false) : Jd G k sc (.Expr e pos) (Zb f) := by
 intro cx ok fn ρ S s r Q E out
 refine wpAny_Expr_any ?_ (by unfold interactive; rw [ok.hsc, ok.hk]; rfl) (hs cx.env)
 refine h cx ok ρ S s r _ _ ?_
 unfold Zb at out
 cases hf : f ρ with
 | stuck => rw [hf] at out; exact out
 | exc C ρ' => rw [hf] at out; exact out
 | ok t ρ' => rw [hf] at out; intro v h' tk S' rel j x vs; exact out .next h' tk S' rel trivial x fun q => by cases q
theorem J1 {cx : Cx} {ρ : AEnv} {S : Addr → Prop} {i : Nat} {x : Str} {v : Value} {t : T} {s : Shared} (ok : CxOk G cx sc 0) (fn : FnOk G cx) (r : Rel G cx sc ρ S s.heap) (hx : (Qg sc)[i]? = some x) (hk : sc.names.lookup x = some .local ∨ sc.names.lookup x = some .cell) (hcl : Xn x = false ∨ ∃ d, t = .sh d) (tv : TSt cx S s.heap v t) :
  Qx G cx sc false (bindName cx.env x v) S s (fun _ _ _ (_ : Unit) => True) (.ok () (ρ.set i (some t))) := by
 refine (Ww ok fn.toFnCx r hx (hk.imp id fun q => ⟨q, fn.has x (by unfold Env.kindOf; rw [ok.hsc]; exact q)⟩) hcl tv).wp fun Q E h => wpAny_bindName h
theorem Bq {x : Str} {p pos : Pos} {value : Expr} {i : Nat} {f : AEnv → Res T} (h : Sim G k sc value f) (hx : (Qg sc)[i]? = some x) (hk : sc.names.lookup x = some .local ∨ sc.names.lookup x = some .cell)
  (hcl : Xn x = false) (hs : ∀ env : Env, env.scope = sc → swapsWith value (some (.Name x p)) pos.line env = pure false) : Jd G k sc (.Assign [.Name x p] value pos) (Qy i f) := by
 intro cx ok fn ρ S s r
 rw [exec_Assign_Name _ _ _ _ _ (hs cx.env ok.hsc)]
 refine Qx.standAt (Qx.bind (h cx ok ρ S s r).loose fun t ρ₁ v h₁ t₁ S₁ _ r₁ j x₁ v₁ => ?_)
 refine Qx.standAt ?_
 intro Q E out
 refine wpAny_bind (J1 (s := { s with heap := h₁, toks := t₁ }) (ok.mono (Nat.zero_le _)) fn r₁ hx hk (.inl hcl) j.st _ _ ?_)
 intro _ h₂ t₂ S₂ r₂ _ x₂ v₂
 exact wpAny_pure (out .next h₂ t₂ S₂ r₂ trivial x₂ v₂)
end
noncomputable def J2 (t : AEnv → Res Bool) (b : AEnv → Res Fl) : Nat → AEnv → Res Fl
 | 0, _ => .stuck
 | n + 1, ρ => (t ρ).bind fun c ρ₁ => if c then (b ρ₁).bind fun fl ρ₂ => (match fl with
   | .next => J2 t b n ρ₂
   | .cont => J2 t b n ρ₂
   | .brk => .ok .next ρ₂
   | .ret t => .ok (.ret t) ρ₂) else .ok .next ρ₁
noncomputable def OS (n : Nat) (t : AEnv → Res Bool) (b : AEnv → Res Fl) : AEnv → Res Fl := J2 t b n
section
variable {G : Gd} {k : Nat} {sc : Scope} {cx : Cx} {ρ ρ₀ : AEnv} {S S₀ : Addr → Prop} {s₀ s : Shared}
theorem DN {C e : Addr} {E : Value → Shared → Prop} (ok : CxOk G cx sc k) (r₀ : Rel G cx sc ρ₀ S₀ s₀.heap) (r : Rel G cx sc ρ S s.heap) (x : Ext S₀ s₀.heap S s.heap) (f : Fly s₀.heap s.heap e C) (hs : ∃ h tk, s = { s₀ with heap := h, toks := tk })
  (hE : ∀ h' tk, Rel G cx sc ρ S h' → FlyT s₀.heap h' e C → Ext S₀ s₀.heap S h' → E (.ref e) { s₀ with heap := h', toks := tk }) : notedBy G.M cx.A cx.env E (.ref e) s := by
 obtain ⟨h, tk, rfl⟩ := hs
 unfold notedBy
 exact Ue (B := G.B) ok.fr r.ff ok.top f x.dom fun h' k' f' => hE h' tk (r₀.kpE r k' f f') f' (x.kpE k' f)
theorem Fa {C e : Addr} {E : Value → Shared → Prop} (r₀ : Rel G cx sc ρ₀ S₀ s₀.heap) (r : Rel G cx sc ρ S s.heap) (x : Ext S₀ s₀.heap S s.heap) (f : FlyT s₀.heap s.heap e C) (hs : ∃ h tk, s = { s₀ with heap := h, toks := tk })
  (hE : ∀ h' tk, Rel G cx sc ρ S h' → FlyT s₀.heap h' e C → Ext S₀ s₀.heap S h' → E (.ref e) { s₀ with heap := h', toks := tk }) : cameBackBy G.M cx.A cx.env E (.ref e) s := by
 obtain ⟨h, tk, rfl⟩ := hs
 unfold cameBackBy
 have f0 := f
 obtain ⟨_, oe, vs, T, oT, ts, he, _, _, hd, _, h1, _⟩ := f0
 refine wpAny_bind (wpAny_field he hd h1 ?_)
 rw [if_neg (by simp)]
 exact Jc (B := G.B) f fun h' k' f' => hE h' tk (r₀.kpE r k' f.fly f') f' (x.kpE k' f.fly)
theorem B2 {C e : Addr} {ρ' : AEnv} {h' : Heap} {tk : Nat} {S' : Addr → Prop} {Q : Flow → Shared → Prop} {E : Value → Shared → Prop} (ok : CxOk G cx sc k) (r : Rel G cx sc ρ S s.heap) (o : Out G cx sc false S s (fun S' h' a b => FlJ cx S' h' a b) Q E (.exc C ρ')) (r' : Rel G cx sc ρ' S' h') (f' : Fly s.heap h' e C) (x' : Ext S s.heap S' h') : notedBy G.M cx.A cx.env (fun e s' => cameBackBy G.M cx.A cx.env E e s') (.ref e) { s with heap := h', toks := tk } :=
 DN ok r r' x' f' ⟨h', tk, rfl⟩ fun h₂ t₂ r₂ f₂ x₂ => Fa r r₂ x₂ f₂ ⟨h₂, t₂, rfl⟩ fun h₃ t₃ r₃ f₃ x₃ => o e h₃ t₃ S' r₃ f₃.fly x₃
theorem Out.stepE {α β γ δ : Type} {same same₁ : Bool} {S₁ : Addr → Prop} {h₁ : Heap} {t₁ : Nat} {J : (Addr → Prop) → Heap → α → β → Prop} {J' : (Addr → Prop) → Heap → γ → δ → Prop} {Q : γ → Shared → Prop} {E EN : Value → Shared → Prop} {Q₁ : α → Shared → Prop} {r : Res β} {g : β → AEnv → Res δ} (out : Out G cx sc same S s J' Q E (r.bind g)) (x : Ext S s.heap S₁ h₁)
  (err : ∀ C ρ', Out G cx sc same S s J' Q E (.exc C ρ') → ∀ e h' tk S', Rel G cx sc ρ' S' h' → Fly s.heap h' e C → Ext S s.heap S' h' → EN (.ref e) { s with heap := h', toks := tk })
  (H : ∀ b ρ, Out G cx sc same S s J' Q E (g b ρ) → ∀ a h' tk S', Rel G cx sc ρ S' h' → J S' h' a b → Ext S₁ h₁ S' h' → (same₁ = true → QA cx.env h₁ h') → Q₁ a { s with heap := h', toks := tk }) :
  Out G cx sc same₁ S₁ { s with heap := h₁, toks := t₁ } J Q₁ EN r := by
 cases r with
 | stuck => exact out
 | exc C ρ => exact fun e h' tk S' r' f' x' => err C ρ out e h' tk S' r' (f'.back x) (x.trans x')
 | ok b ρ => exact H b ρ out
inductive WInv (G : Gd) (cx : Cx) (sc : Scope) (S : Addr → Prop) (P : Nat → AEnv → Prop) (s : Shared) : Nat → Shared → Prop
 | mk {m : Nat} {ρ' : AEnv} {S' : Addr → Prop} {h' : Heap} {tk : Nat} : Rel G cx sc ρ' S' h' → Ext S s.heap S' h' → P m ρ' → WInv G cx sc S P s m { s with heap := h', toks := tk }
set_option tactic.hygienic true in
theorem Cy {test : Expr} {body : List Stmt} {pos : Pos} {n : Nat} {t : AEnv → Res Bool} {b : AEnv → Res Fl} (ht : JI G k sc test t) (hb : Yt G k sc body b) : Jd G k sc (.While test body [] pos) (OS n t b) := by
 intro cx ok fn ρ S s r Q E out
 refine wpAny_While ?_
 obtain ⟨Inv, hI, hC⟩ : ∃ Inv : Nat → Shared → Prop, (∀ m s', WInv G cx sc S (fun m ρ' => Out G cx sc false S s (fun S' h' a b => FlJ cx S' h' a b) Q E (J2 t b m ρ')) s m s' → Inv m s') ∧ ∀ m s', Inv m s' → WInv G cx sc S (fun m ρ' => Out G cx sc false S s (fun S' h' a b => FlJ cx S' h' a b) Q E (J2 t b m ρ')) s m s' := ⟨_, fun _ _ q => q, fun _ _ q => q⟩
 refine codeAny_whileLoop Inv ?_ n (hI _ _ (.mk (tk := s.toks) r (Ext.refl ..) out))
 have err : ∀ C ρ', Out G cx sc false S s (fun S' h' a b => FlJ cx S' h' a b) Q E (.exc C ρ') → ∀ e h' tk S', Rel G cx sc ρ' S' h' → Fly s.heap h' e C → Ext S s.heap S' h' → notedBy G.M cx.A cx.env (fun e s' => cameBackBy G.M cx.A cx.env E e s') (.ref e) { s with heap := h', toks := tk } := fun C ρ' o e h' tk S' r' f' x' => B2 ok r o r' f' x'
 generalize (notedBy G.M cx.A cx.env fun e s' => cameBackBy G.M cx.A cx.env E e s') = EN at err ⊢
 intro m s' hinv
 cases hC m s' hinv with
 | mk r' x' out' =>
 rename_i ρ' S' h' tk'
 cases m with
 | zero => exact out'.elim
 | succ m =>
  refine (ht cx ok ρ' S' { s with heap := h', toks := tk' } r').loose (same := false) _ _ (Out.stepE (s := s) out' x' err fun c ρ₁ out' a h₁ t₁ S₁ r₁ j₁ x₁ _ => ?_)
  subst j₁
  cases a with
  | false => exact wpAny_pure (out' .next h₁ t₁ S₁ r₁ trivial (x'.trans x₁) fun q => by cases q)
  | true =>
   refine hb cx ok fn ρ₁ S₁ { s with heap := h₁, toks := t₁ } r₁ _ _ (Out.stepE (s := s) out' (x'.trans x₁) err fun fl ρ₂ out' a h₂ t₂ S₂ r₂ j₂ x₂ _ => ?_)
   have xx := (x'.trans x₁).trans x₂
   cases a <;> cases fl <;> first
    | exact j₂.elim
    | exact ⟨m, Nat.lt_succ_self _, hI _ _ (.mk (tk := t₂) r₂ xx out')⟩
    | exact out' _ h₂ t₂ S₂ r₂ j₂ xx fun q => by cases q
end
end Mine
end

section
set_option Elab.async false
set_option maxRecDepth 100000
namespace Mine
open PySem
inductive FOut where
 | ok (t : T)
 | exc (C : Addr)
 | stuck
noncomputable def Ve (S : Addr → Prop) (h : Heap) : Prop := ∀ b, S b → ∃ o, h.get? b = some o
noncomputable def Hh (h : Heap) (S : Addr → Prop) (h' : Heap) (v : Value) : T → Prop
 | .sh d => RV S h' v d
 | .ow _ d => ∃ a, v = .ref a ∧ h.get? a = none ∧ ¬ S a ∧ X2 S h' a d
noncomputable def G9 (G : Gd) (S : Addr → Prop) (s : Shared) (R : Result → Shared → Prop) : FOut → Prop
 | .ok t => ∀ v h' tk S', Kp s.heap h' → G.B.StaysIn h' → (∀ b, S b → S' b) → (∀ b, S' b → S b ∨ s.heap.get? b = none) → Ve S' h' → Hh s.heap S' h' v t → R (.ok (.ret v)) { s with heap := h', toks := tk }
 | .exc C => ∀ e h' tk, Kp s.heap h' → G.B.StaysIn h' → FlyT s.heap h' e C → R (.error (.ref e)) { s with heap := h', toks := tk }
 | .stuck => False
noncomputable def Yd (G : Gd) (k : Nat) (g : Value) (F : List D → FOut) : Prop :=
 ∀ (A : Around) (fs : List Env) (S : Addr → Prop) (s : Shared) (vs : List Value) (ds : List D), O7 A k → A.frames = some fs → (G.quiet = true → A.handled = none) → (∀ v, A.handled = some v → ∃ C, RV S s.heap v (.exc C)) → FF G.B s.heap fs → G.B.StaysIn s.heap → Ve S s.heap → RVs S s.heap vs ds →
  ∀ R, G9 G S s R (F ds) → codeAny G.M A (.call g ⟨vs, []⟩) R s
noncomputable def Yy (sc : Scope) (ps : List Str) (ds : List D) : AEnv := (Qg sc).map fun x => ((ps.zip ds).lookup x).map T.sh
noncomputable def DE : Res Fl → FOut
 | .ok (.ret t) _ => .ok t
 | .ok .next _ => .ok (.sh .none)
 | .ok _ _ => .stuck
 | .exc C _ => .exc C
 | .stuck => .stuck
noncomputable def F2 (sc : Scope) (ps : List Str) (f : AEnv → Res Fl) (ds : List D) : FOut := if ds.length = ps.length then DE (f (Yy sc ps ds)) else .stuck
theorem Ot (K : Str → Option NameKind) : ∀ (binds : List (Str × Value)) (m : Str → Option Value) (y : Str), (binds.map (·.1)).Nodup → bindL K binds m y = if K y = some .local then (match binds.lookup y with | some v => some v | none => m y) else m y
 | [], m, y, _ => by simp [bindL]
 | (n, v) :: r, m, y, nd => by
  have nd' : n ∉ r.map (·.1) ∧ (r.map (·.1)).Nodup := by simpa using nd
  rw [bindL, Ot K r _ y nd'.2]
  by_cases hy : y = n
  ·subst hy
   have hn : r.lookup y = none := by
    rw [List.lookup_eq_none_iff]
    intro p hp
    have : p.1 ≠ y := fun q => nd'.1 (q ▸ List.mem_map_of_mem (f := (·.1)) hp)
    simpa using this.symm
   by_cases hk : K y = some .local
   ·simp [hk, hn, List.lookup_cons]
   ·simp [hk]
  ·have hb : (y == n) = false := by simpa using hy
   by_cases hk : K y = some .local
   ·rw [if_pos hk, if_pos hk, List.lookup_cons, hb]
    cases r.lookup y with
    | some w => rfl
    | none =>
     simp only
     split
     ·simp [hy]
     ·rfl
   ·rw [if_neg hk, if_neg hk]
    split
    ·simp [hy]
    ·rfl
theorem OC (K : Str → Option NameKind) : ∀ (binds : List (Str × Value)) (m : Str → Option Value) (y : Str), (binds.map (·.1)).Nodup → bindC K binds m y = if K y = some .local then m y else (match binds.lookup y with | some v => some v | none => m y)
 | [], m, y, _ => by simp [bindC]
 | (n, v) :: r, m, y, nd => by
  have nd' : n ∉ r.map (·.1) ∧ (r.map (·.1)).Nodup := by simpa using nd
  rw [bindC, OC K r _ y nd'.2]
  by_cases hy : y = n
  ·subst hy
   have hn : r.lookup y = none := by
    rw [List.lookup_eq_none_iff]
    intro p hp
    have : p.1 ≠ y := fun q => nd'.1 (q ▸ List.mem_map_of_mem (f := (·.1)) hp)
    simpa using this.symm
   by_cases hk : K y = some .local
   ·simp [hk]
   ·simp [hk, hn, List.lookup_cons]
  ·have hb : (y == n) = false := by simpa using hy
   by_cases hk : K y = some .local
   ·rw [if_pos hk, if_pos hk]
    split
    ·rfl
    ·simp [hy]
   ·rw [if_neg hk, if_neg hk, List.lookup_cons, hb]
    cases r.lookup y with
    | some w => rfl
    | none =>
     simp only
     split
     ·rfl
     ·simp [hy]
theorem OT {S : Addr → Prop} {h : Heap} {y : Str} : ∀ {ps : List Str} {vs : List Value} {ds : List D}, RVs S h vs ds → ∀ {d : D}, (ps.zip ds).lookup y = some d → ∃ v, (ps.zip vs).lookup y = some v ∧ RV S h v d
 | [], _, _, _, d, e => by simp at e
 | p :: ps, _, _, .nil, d, e => by simp at e
 | p :: ps, _, _, .cons (v := v) q r, d, e => by
  rw [List.zip_cons_cons, List.lookup_cons] at e ⊢
  cases hb : y == p with
  | true => rw [hb] at e; cases e; exact ⟨v, rfl, q⟩
  | false => rw [hb] at e; exact OT r e
theorem Oa {y : Str} {v : Value} : ∀ {ps : List Str} {vs : List Value}, (ps.zip vs).lookup y = some v → v ∈ vs ∧ y ∈ ps
 | [], _, e => by simp at e
 | _ :: _, [], e => by simp at e
 | p :: ps, w :: vs, e => by
  rw [List.zip_cons_cons, List.lookup_cons] at e
  cases hb : y == p with
  | true => rw [hb] at e; cases e; exact ⟨.head _, by rw [beq_iff_eq.mp hb]; exact .head _⟩
  | false => rw [hb] at e; have := Oa e; exact ⟨.tail _ this.1, .tail _ this.2⟩
theorem Um {α β : Type} : ∀ (ps : List α) (vs : List β), vs.length = ps.length → (ps.zip vs).map (·.1) = ps
 | [], [], _ => rfl
 | p :: ps, v :: vs, h => by rw [List.zip_cons_cons, List.map_cons, Um ps vs (by simpa using h)]
 | [], _ :: _, h => by simp at h
 | _ :: _, [], h => by simp at h
set_option tactic.hygienic true in
theorem YM {x : Str} : ∀ (names : List (Str × NameKind)) (n : Nat) (acc : List (Str × Addr)), names.lookup x = some .cell ∨ (acc.lookup x).isSome = true → ((cellsFrom n names acc).lookup x).isSome = true
 | [], _, _, h => h.elim (fun e => by cases e) id
 | (y, k) :: r, n, acc, h => by
  unfold cellsFrom
  split
  ·rename_i hk
   refine YM r (n + 1) ((y, n) :: acc) ?_
   cases hy : x == y with
   | true => exact .inr (by rw [List.lookup_cons, hy]; rfl)
   | false =>
    rcases h with h | h
    ·rw [List.lookup_cons, hy] at h; exact .inl h
    ·exact .inr (by rw [List.lookup_cons, hy]; exact h)
  ·rename_i hk
   refine YM r n acc ?_
   cases hy : x == y with
   | true =>
    rcases h with h | h
    ·rw [List.lookup_cons, hy] at h
     exact absurd (by rw [Option.some.inj h]; rfl) hk
    ·exact .inr h
   | false =>
    rcases h with h | h
    ·rw [List.lookup_cons, hy] at h; exact .inl h
    ·exact .inr h
theorem EX {G : Gd} (hG : G.Ok) {k : Nat} {a : Addr} {fo : Obj} {fd : FuncData} {body : List Stmt} {ps : List Str} (hfo : G.B.get? a = some fo) (hfd : fo.data = .func fd) (hcode : G.B.CodeRec fd.code fd.qualname) (hbody : fd.body = .stmts body) (hclo : fd.closure = [])
  (hgl : fd.globals = mainGlobals) (hbl : fd.builtins = builtinsNs) (hbind : ∀ vs : List Value, vs.length = ps.length → bindArgs fd ⟨vs, []⟩ = pure (ps.zip vs))
  (hps : ∀ x ∈ ps, fd.scope.names.lookup x = some .local ∨ fd.scope.names.lookup x = some .cell) (hpn : ps.Nodup) (hnd : (Qg fd.scope).Nodup) (hkind : fd.scope.kind = .function) (hco : fd.scope.isCoroutine = false) (hgen : fd.scope.isGenerator = false)
  {A : Around} {fs : List Env} {S : Addr → Prop} {s : Shared} {vs : List Value} {ds : List D} {R : Result → Shared → Prop} (room : O7 A (k + 1)) (fr : A.frames = some fs) (hd : G.quiet = true → A.handled = none) (hok : ∀ v, A.handled = some v → ∃ C, RV S s.heap v (.exc C)) (ff : FF G.B s.heap fs) (hB : G.B.StaysIn s.heap) (sd : Ve S s.heap) (rv : RVs S s.heap vs ds) (hlen : ds.length = ps.length)
  (h : ∀ (cx : Cx) (h₁ : Heap) (tk₁ : Nat), CxOk G cx fd.scope k → FnOk G cx → cx.h₀ = s.heap → cx.P = S → cx.fs.tail = fs → cx.env.frame = some cx.env.locals → Rel G cx fd.scope (Yy fd.scope ps ds) S h₁ → (∀ b o, s.heap.get? b = some o → h₁.get? b = some o) →
   wpAny G.M cx.A (execs body cx.env) (fun f s' => R (.ok (.ret (match f with | .ret v => v | _ => .none))) s') (fun e s' => wpAny G.M cx.A (leaving cx.env e) (fun _ s'' => R (.error e) s'') (fun e' s'' => R (.error e') s'') s') { s with heap := h₁, toks := tk₁ }) :
  codeAny G.M A (.call (.ref a) ⟨vs, []⟩) R s := by
 have hvl : vs.length = ps.length := rv.length.trans hlen
 refine codeAny_call_cells (fd := fd) (binds := ps.zip vs) (by have := room.1; unfold recursionLimit; lia) (hB _ _ hfo) hfd (hG.nolimit.keeps hB) (let ⟨c, o, ws, t, e1, e2, e3, e4⟩ := hcode; ⟨c, o, ws, t, e1, hB _ _ e2, e3, e4⟩) hbody (hbind vs hvl) hclo
  (fun x hx => ?_) (fun s₁ X => ?_) hco hgen hkind
 ·have hm : x.1 ∈ ps := by rw [← Um ps vs hvl]; exact List.mem_map_of_mem hx
  exact (hps _ hm).imp id fun q => ⟨q, YM _ _ _ (.inl q)⟩
 have D1 := X.toInCall.done
 obtain ⟨h₁, tk₁, rfl, hk₁⟩ := D1
 have nd : ((ps.zip vs).map (·.1)).Nodup := by rw [Um ps vs hvl]; exact hpn
 have hLn : s.heap.get? s.heap.objs.size = none := Heap.get?_none_of_le (Nat.le_refl _)
 have hBn : G.B.get? s.heap.objs.size = none := by
  cases q : G.B.get? s.heap.objs.size with
  | none => rfl
  | some o => rw [hB _ _ q] at hLn; cases hLn
 let cx : Cx := { A := A.deeper (callEnvC fd s.heap.objs.size a), env := callEnvC fd s.heap.objs.size a, fs := callEnvC fd s.heap.objs.size a :: fs, h₀ := s.heap, P := S }
 have ok : CxOk G cx fd.scope k := { hsc := rfl, hk := hkind, hg := hgl, hb := hbl, fr := by show (A.deeper _).frames = _; unfold Around.deeper; rw [fr]; rfl, top := ⟨_, fs, rfl, rfl⟩, hd := hd, room := ⟨by have := room.1; show A.depth + 1 + k ≤ 900; exact omS this, by have := room.2; show A.units + 3 + 8 * k ≤ 9000; lia⟩, nodup := hnd, bh := hB }
 have above : ∀ x c, cx.env.cells.lookup x = some c → s.heap.objs.size < c := fun x c q => X.above x c (mem_of_lookup q)
 have fn : FnOk G cx := { bh := hB, lnew := hLn, cap := fun x y c q q' _ => name_of_addr X.apart (mem_of_lookup q) (mem_of_lookup q'), loc := fun x c q => Nat.ne_of_gt (above x c q), has := fun x q => let ⟨c, hc⟩ := Option.isSome_iff_exists.mp (YM _ _ _ (.inl q)); ⟨c, hc, Heap.get?_none_of_le (Nat.le_of_lt (above x c hc))⟩ }
 have vals : ∀ y v, Var cx.env h₁ y v → v ∈ vs := fun y v q => by
  rcases q with ⟨q1, m, n, e⟩ | ⟨q1, c, q2, n⟩
  ·have := X.toInCall.ns.agree n y
   rw [e, Ot _ _ _ _ nd, if_pos q1] at this
   cases hl : (ps.zip vs).lookup y with
   | none => rw [hl] at this; cases this
   | some w => rw [hl] at this; cases this; exact (Oa hl).1
  ·have := IsCell.inj (X.cell y c q2) n
   rw [OC _ _ _ _ nd, if_neg (by show ¬ cx.env.kindOf y = some .local; rcases q1 with q | q <;> (rw [q]; decide))] at this
   cases hl : (ps.zip vs).lookup y with
   | none => rw [hl] at this; cases this
   | some w => rw [hl] at this; cases this; exact (Oa hl).1
 have r₀ : Rel G cx fd.scope (Yy fd.scope ps ds) S h₁ := {
  base := fun b o q => hk₁ b o (hB b o q)
  keep := Kp.of_keeps hk₁
  ff := fun env he => by
   rcases List.mem_cons.mp he with rfl | he
   ·obtain ⟨o, es, ep, q1, q2, _⟩ := X.toInCall.ns
    exact ⟨by show fd.scope.kind ≠ .module; rw [hkind]; decide, s.heap.objs.size, o, rfl, hBn, q1, es, ep, q2⟩
   ·exact ff.kp (Kp.of_keeps hk₁) env he
  ns := ⟨_, X.toInCall.ns⟩
  cells := fun x c q => ⟨_, X.cell x c q⟩
  sdom := fun b q => let ⟨o, e⟩ := sd b q; ⟨o, hk₁ b o e⟩
  sok := fun b q => .inl q
  sloc := fun q => by obtain ⟨o, e⟩ := sd _ q; rw [show cx.env.locals = s.heap.objs.size from rfl, hLn] at e; cases e
  scell := fun x c q q' => by obtain ⟨o, e⟩ := sd _ q'; rw [show s.heap.get? c = none from Heap.get?_none_of_le (Nat.le_of_lt (above x c q))] at e; cases e
  live := fun x b _ q => by
   obtain ⟨d, _, rvd⟩ := rv.mem (vals x _ q)
   obtain ⟨o, e⟩ := rvd.live b rfl
   exact ⟨o, hk₁ b o e⟩
  clean := fun i x m d hx hi => by
   unfold Yy at hi
   rw [List.getElem?_map, hx] at hi
   simp only [Option.map_some, Option.some.injEq] at hi
   cases hl : (ps.zip ds).lookup x with
   | none => rw [hl] at hi; cases hi
   | some d => rw [hl] at hi; cases hi
  hok := fun v q => let ⟨C, e⟩ := hok v q; ⟨C, e.ext (Ext.of_keeps hk₁)⟩
  vars := fun i x t hx ht => by
   unfold Yy at ht
   rw [List.getElem?_map, hx] at ht
   simp only [Option.map_some, Option.some.injEq] at ht
   cases hl : (ps.zip ds).lookup x with
   | none => rw [hl] at ht; cases ht
   | some d =>
    rw [hl] at ht; cases ht
    obtain ⟨v, hv, rvd⟩ := OT rv hl
    refine ⟨v, ?_, rvd.ext (Ext.of_keeps hk₁)⟩
    rcases hps x (Oa hv).2 with q | q
    ·refine .inl ⟨q, _, X.toInCall.ns, ?_⟩
     rw [Ot _ _ _ _ nd, if_pos (show (callEnvC fd s.heap.objs.size a).kindOf x = some .local from q), hv]
    ·obtain ⟨c, hc⟩ := Option.isSome_iff_exists.mp (YM fd.scope.names (s.heap.objs.size + 1) [] (.inl q) : ((cellsFrom (s.heap.objs.size + 1) fd.scope.names []).lookup x).isSome = true)
     refine .inr ⟨.inl q, c, hc, ?_⟩
     have := X.cell x c hc
     rw [OC _ _ _ _ nd, if_neg (show ¬ (callEnvC fd s.heap.objs.size a).kindOf x = some .local from by rw [show (callEnvC fd s.heap.objs.size a).kindOf x = some .cell from q]; decide), hv] at this
     exact this
  inj := fun i j x y m m' d d' v hx hy hi hj _ _ => by
   unfold Yy at hi
   rw [List.getElem?_map, hx] at hi
   simp only [Option.map_some, Option.some.injEq] at hi
   cases hl : (ps.zip ds).lookup x with
   | none => rw [hl] at hi; cases hi
   | some d => rw [hl] at hi; cases hi
  dok := fun i x m ks es hx hi => by
   unfold Yy at hi
   rw [List.getElem?_map, hx] at hi
   simp only [Option.map_some, Option.some.injEq] at hi
   cases hl : (ps.zip ds).lookup x with
   | none => rw [hl] at hi; cases hi
   | some d => rw [hl] at hi; cases hi }
 exact h cx h₁ tk₁ ok fn rfl rfl rfl rfl r₀ hk₁
set_option tactic.hygienic true in
theorem GR {G : Gd} (hG : G.Ok) {k : Nat} {a : Addr} {fo : Obj} {fd : FuncData} {body : List Stmt} {f : AEnv → Res Fl} {ps : List Str} (hfo : G.B.get? a = some fo) (hfd : fo.data = .func fd) (hcode : G.B.CodeRec fd.code fd.qualname) (hbody : fd.body = .stmts body) (hclo : fd.closure = [])
  (hgl : fd.globals = mainGlobals) (hbl : fd.builtins = builtinsNs) (hbind : ∀ vs : List Value, vs.length = ps.length → bindArgs fd ⟨vs, []⟩ = pure (ps.zip vs))
  (hps : ∀ x ∈ ps, fd.scope.names.lookup x = some .local ∨ fd.scope.names.lookup x = some .cell) (hpn : ps.Nodup) (hnd : (Qg fd.scope).Nodup) (hkind : fd.scope.kind = .function) (hco : fd.scope.isCoroutine = false) (hgen : fd.scope.isGenerator = false)
  (h : Yt G k fd.scope body f) : Yd G (k + 1) (.ref a) (F2 fd.scope ps f) := by
 intro A fs S s vs ds room fr hd hok ff hB sd rv R fin
 unfold F2 at fin
 split at fin
 rotate_left
 ·exact fin.elim
 rename_i hlen
 refine EX hG (body := body) (ps := ps) hfo hfd hcode hbody hclo hgl hbl hbind hps hpn hnd hkind hco hgen room fr hd hok ff hB sd rv hlen fun cx h₁ tk₁ ok fn e₀ eP _ _ r₀ hk₁ => ?_
 refine h cx ok fn (Yy fd.scope ps ds) S { s with heap := h₁, toks := tk₁ } r₀ _ _ ?_
 cases hf : f (Yy fd.scope ps ds) with
 | stuck => rw [hf] at fin; exact fin.elim
 | exc C ρ' =>
  rw [hf] at fin
  intro e h₂ t₂ S₂ r₂ f₂ x₂
  refine Ow (B := G.B) (h := h₁) (s := { s with heap := h₂, toks := t₂ }) ok.fr r₂.ff ok.top f₂ x₂.dom fun h₃ k₃ f₃ => ?_
  have r₃ := r₀.kpE r₂ k₃ f₂ f₃
  refine fin e h₃ t₂ (e₀ ▸ r₃.keep) r₃.base ?_
  obtain ⟨n, oe, ws, T, oT, ts, a1, a2, a0, a3, a4, a5, a6, a7, a8, a9, a10, a11⟩ := f₃
  have back : ∀ b, h₁.get? b = none → s.heap.get? b = none := fun b q => by
   cases q' : s.heap.get? b with
   | none => rfl
   | some o => rw [hk₁ b o q'] at q; cases q
  exact ⟨back e n, oe, ws, T, oT, ts, a1, a2, a0, a3, a4, a5, a6, back T a7, a8, a9, a10, a11⟩
 | ok fl ρ' =>
  rw [hf] at fin
  intro v h₂ t₂ S₂ r₂ j₂ x₂ _
  have back : ∀ b, S₂ b → S b ∨ s.heap.get? b = none := by have := r₂.sok; rw [e₀, eP] at this; exact this
  cases v <;> cases fl <;> first
   | exact j₂.elim
   | exact fin.elim
   | exact fin .none h₂ t₂ S₂ (e₀ ▸ r₂.keep) r₂.base x₂.sub back r₂.sdom .none
   | skip
  rename_i v t
  refine fin v h₂ t₂ S₂ (e₀ ▸ r₂.keep) r₂.base x₂.sub back r₂.sdom ?_
  cases t with
  | sh d => exact j₂
  | ow m d => obtain ⟨b, e, n1, ow, n2⟩ := j₂; exact ⟨b, e, e₀ ▸ n2, n1, ow⟩
end Mine
end

section
set_option Elab.async false
set_option maxRecDepth 100000
namespace Mine
open PySem
inductive BVals (cx : Cx) (sc : Scope) (S : Addr → Prop) (h : Heap) : List Value → List Bv → Prop
 | nil : BVals cx sc S h [] []
 | cons {v : Value} {b : Bv} {vs : List Value} {bs : List Bv} : YD cx sc S h v b → BVals cx sc S h vs bs → BVals cx sc S h (v :: vs) (b :: bs)
noncomputable def YS (G : Gd) (k : Nat) (sc : Scope) (es : List Expr) (f : AEnv → Res (List Bv)) : Prop :=
 ∀ pos cx, CxOk G cx sc k → ∀ ρ S s, Rel G cx sc ρ S s.heap → Qx G cx sc true (spliced (backTo pos (starEach es cx.env))) S s (fun S' h' vs bs => BVals cx sc S' h' vs bs) (f ρ)
noncomputable def Qm : AEnv → Res (List Bv) := fun ρ => .ok [] ρ
noncomputable def Qa (f : AEnv → Res Bv) (g : AEnv → Res (List Bv)) : AEnv → Res (List Bv) := fun ρ => (f ρ).bind fun b ρ₁ => (g ρ₁).bind fun bs ρ₂ => .ok (b :: bs) ρ₂
theorem Qe {G : Gd} {k : Nat} {sc : Scope} : YS G k sc [] Qm := fun _ _ _ _ _ _ r => Qx.pure r .nil
theorem Cq {G : Gd} {k : Nat} {sc : Scope} {e : Expr} {rest : List Expr} {f : AEnv → Res Bv} {g : AEnv → Res (List Bv)} (he : Qf G k sc e f) (hr : YS G k sc rest g) (hs : QO e = true) : YS G k sc (e :: rest) (Qa f g) := by
 intro pos cx ok ρ S s r
 rw [Yi hs]
 refine Qx.bind (he cx ok ρ S s r) fun b ρ₁ v h₁ t₁ S₁ _ r₁ j₁ x₁ v₁ => ?_
 intro Q E out
 refine wpAny_bind (wpAny_pure ?_)
 refine (Qx.bind (J' := fun S' h' vs bs => BVals cx sc S' h' vs bs) (Qx.holding (hr pos cx ok ρ₁ S₁ { s with heap := h₁, toks := t₁ } r₁)) fun bs ρ₂ vs h₂ t₂ S₂ _ r₂ j₂ x₂ v₂ => ?_) Q E out
 exact Qx.pure r₂ (.cons (YD.ext j₁ x₂ (v₂ rfl)) j₂)
noncomputable def X0 (ρ : AEnv) : List Bv → Option (List D)
 | [] => some []
 | b :: bs => match b.get ρ, X0 ρ bs with
  | some d, some ds => some (d :: ds)
  | _, _ => none
noncomputable def ZR (ρ : AEnv) : Bv → Bool
 | .val _ => true
 | .var i => match ρ[i]? with
  | some (some (.sh _)) => true
  | _ => false
mutual
noncomputable def Qj : D → Bool
 | .list _ => false
 | .obj _ _ _ => false
 | .tup ds => XX ds
 | _ => true
noncomputable def XX : List D → Bool
 | [] => true
 | d :: ds => Qj d && XX ds
end
theorem RV.free {S S' : Addr → Prop} {h : Heap} {v : Value} {d : D} (q : RV S h v d) : Qj d = true → RV S' h v d :=
 RV.rec (motive_1 := fun v d _ => Qj d = true → RV S' h v d) (motive_2 := fun vs ds _ => XX ds = true → RVs S' h vs ds) (fun _ => .none) (fun b _ => .bool b) (fun i t _ => .int i t) (fun y t _ => .str y t) (fun e hc hd _ r q => .tup e hc hd (r (by rw [Qj] at q; exact q)))
  (fun _ _ _ _ _ _ q => by rw [Qj] at q; cases q) (fun e _ => .range e) (fun e hc hn hd r _ => .exc e hc hn hd r) (fun v hv _ => .glob v hv) (fun _ _ _ _ _ _ _ q => by rw [Qj] at q; cases q) (fun _ => .nil)
  (fun _ _ a b e => by rw [XX] at e; obtain ⟨e1, e2⟩ := Bool.and_eq_true_iff.mp e; exact .cons (a e1) (b e2)) q
section
variable {G : Gd} {cx : Cx} {sc : Scope} {ρ : AEnv} {S S' : Addr → Prop} {h h' : Heap}
set_option tactic.hygienic true in
theorem BVals.rvs {vs : List Value} {bs : List Bv} (q : BVals cx sc S h vs bs) (r : Rel G cx sc ρ S h) (hs : bs.all (ZR ρ) = true) : ∀ {ds : List D}, X0 ρ bs = some ds → RVs S h vs ds := by
 induction q with
 | nil => intro ds e; cases e; exact .nil
 | cons hb _ ih =>
  intro ds e
  rename_i v b vs bs _
  rw [X0] at e
  rw [List.all_cons, Bool.and_eq_true_iff] at hs
  split at e
  ·rename_i d ds' hd hds
   cases e
   refine .cons ?_ (ih hs.2 hds)
   cases b with
   | val d' => cases hd; exact hb
   | var i =>
    obtain ⟨y, hy, hv⟩ := hb
    have h1 := hs.1
    simp only [ZR] at h1
    simp only [Bv.get] at hd
    split at h1
    ·rename_i d' ht
     rw [ht] at hd
     cases hd
     obtain ⟨w, hw, tv⟩ := r.vars i y _ hy ht
     rw [Var.inj hv hw]; exact tv
    ·cases h1
  ·cases e
set_option tactic.hygienic true in
theorem BVals.dom {vs : List Value} {bs : List Bv} (q : BVals cx sc S h vs bs) (r : Rel G cx sc ρ S h) : ∀ {ds : List D}, X0 ρ bs = some ds → RVs (fun b => ∃ o, h.get? b = some o) h vs ds := by
 induction q with
 | nil => intro ds e; cases e; exact .nil
 | cons hb _ ih =>
  intro ds e
  rename_i v b vs bs _
  rw [X0] at e
  split at e
  ·rename_i d ds' hd hds
   cases e
   refine .cons ?_ (ih hds)
   cases hb.rb r hd with
   | of q => exact q.ext (Ext.grow r.sdom)
   | own q =>
    unfold X2 at q
    split at q
    ·obtain ⟨vs, n, e, rv⟩ := q; exact .list ⟨_, e⟩ e ⟨rfl, rfl, rfl⟩ rfl (rv.ext (Ext.grow r.sdom))
    ·exact q.elim
  ·cases e
theorem Rel.kpS (r : Rel G cx sc ρ S h) (k : Kp h h') (hb : G.B.StaysIn h') (sub : ∀ b, S b → S' b) (new : ∀ b, S' b → S b ∨ h.get? b = none) (sd : Ve S' h') : Rel G cx sc ρ S' h' ∧ Ext S h S' h' := by
 have x : Ext S h S' h' := ⟨sub, fun b o e _ => k b o e, fun b o e => k.dom e⟩
 have r' := r.kp k hb
 refine ⟨⟨hb, r'.keep, r'.ff, r'.ns, r'.cells, sd, fun b q => ?_, fun q => ?_, fun y c e q => ?_, r'.live, r'.clean, fun v q => let ⟨C, e⟩ := r.hok v q; ⟨C, e.ext x⟩, fun i y t hy ht => ?_, r'.inj, r'.dok⟩, x⟩
 ·exact (new b q).elim (r.sok b) fun q => .inr (r.keep.none q)
 ·rcases new _ q with q | q
  ·exact r.sloc q
  ·obtain ⟨m, o, _, _, e, _⟩ := r.ns; rw [q] at e; cases e
 ·rcases new _ q with q | q
  ·exact r.scell y c e q
  ·obtain ⟨v, o, e', _⟩ := r.cells y c e; rw [q] at e'; cases e'
 ·obtain ⟨v, hv, tv⟩ := r.vars i y t hy ht
  refine ⟨v, hv.kp k, ?_⟩
  cases t with
  | sh d => exact RV.ext x tv
  | ow m d =>
   obtain ⟨a, rfl, n1, ow, n2⟩ := tv
   obtain ⟨o, ho, _⟩ := ow.live
   refine ⟨a, rfl, fun q => ?_, ow.ext x fun o' e' => k a o' e', n2⟩
   rcases new _ q with q | q
   ·exact n1 q
   ·rw [q] at ho; cases ho
end
noncomputable def YO (bs : List Bv) (ρ : AEnv) : FOut → Res T
 | .ok t => if bs.all (ZR ρ) then .ok t ρ else if Qj t.val then .ok (.sh t.val) ρ else .stuck
 | .exc C => .exc C ρ
 | .stuck => .stuck
noncomputable def QV (F : List D → FOut) (fa : AEnv → Res (List Bv)) : AEnv → Res T := fun ρ => (fa ρ).bind fun bs ρ₁ => ob (X0 ρ₁ bs) fun ds => YO bs ρ₁ (F ds)
section
variable {G : Gd} {k : Nat} {sc : Scope}
set_option tactic.hygienic true in
theorem Ox {cx : Cx} {ρ : AEnv} {S : Addr → Prop} {s : Shared} {g : Value} {F : List D → FOut} {vs : List Value} {bs : List Bv} {ds : List D} {k' : Nat} (hF : Yd G k' g F) (ok : CxOk G cx sc k) (hk : k' ≤ k) (r : Rel G cx sc ρ S s.heap) (q : BVals cx sc S s.heap vs bs) (e : X0 ρ bs = some ds) :
  Qx G cx sc true (call g vs []) S s (fun S' h' v t => JJ cx S' h' v t) (YO bs ρ (F ds)) := by
 intro Q E out
 refine wpAny_call ?_
 by_cases hs : bs.all (ZR ρ) = true
 ·refine hF cx.A cx.fs S s vs ds (ok.room.mono hk) ok.fr ok.hd r.hok r.ff r.base r.sdom (q.rvs r hs e) _ ?_
  cases hf : F ds with
  | stuck => rw [hf] at out; exact out.elim
  | exc C =>
   rw [hf] at out
   intro ee h' tk kp hb fl
   exact out ee h' tk S (r.kp kp hb) fl.fly (Ext.of_kp kp)
  | ok t =>
   rw [hf] at out
   simp only [YO] at out
   rw [if_pos hs] at out
   intro v h' tk S' kp hb sub new sd ret
   obtain ⟨r', x'⟩ := r.kpS kp hb sub new sd
   refine out v h' tk S' r' ?_ x' fun _ => r.same kp
   cases t with
   | sh d => exact ret
   | ow m d =>
    obtain ⟨a, rfl, n1, n2, ow⟩ := ret
    refine ⟨a, rfl, n2, ow, r.keep.none n1, fun x hdx hx => ?_⟩
    obtain ⟨o, ho⟩ := r.live x a hdx (Var.of_kp kp r.ns r.cells hx)
    rw [n1] at ho; cases ho
 ·refine hF cx.A cx.fs (fun b => ∃ o, s.heap.get? b = some o) s vs ds (ok.room.mono hk) ok.fr ok.hd (fun v q => let ⟨C, e⟩ := r.hok v q; ⟨C, e.ext (Ext.grow r.sdom)⟩) r.ff r.base (fun _ q => q) (q.dom r e) _ ?_
  cases hf : F ds with
  | stuck => rw [hf] at out; exact out.elim
  | exc C =>
   rw [hf] at out
   intro ee h' tk kp hb fl
   exact out ee h' tk S (r.kp kp hb) fl.fly (Ext.of_kp kp)
  | ok t =>
   rw [hf] at out
   simp only [YO] at out
   rw [if_neg hs] at out
   split at out
   ·rename_i hfree
    intro v h' tk S' kp hb sub new sd ret
    refine out v h' tk S (r.kp kp hb) ?_ (Ext.of_kp kp) fun _ => r.same kp
    cases t with
    | sh d => exact RV.free ret hfree
    | ow m d =>
     obtain ⟨a, rfl, n1, n2, ow⟩ := ret
     exfalso
     unfold X2 at ow
     split at ow
     ·simp [T.val, Qj] at hfree
     ·exact ow
   ·exact out.elim
theorem Zy {M : Model} {A : Around} {E : Value → Shared → Prop} {s : Shared} {env : Env} {pos : Pos} {f : Value} {es : List Expr} {Q : Args → Shared → Prop} (hu : es.all QO = true)
  (h : wpAny M A (spliced (backTo pos (starEach es env))) (fun vs s' => Q ⟨vs, []⟩ s') E s) : wpAny M A (evalArgs f true (backTo pos (starEach es env)) []) Q E s := by
 cases es with
 | nil =>
  unfold evalArgs
  show wpAny M A (spliced [] >>= _) Q E s
  refine wpAny_bind (wpAny_mono h (fun vs s' h' => ?_) fun _ _ x => x)
  refine wpAny_holding ?_
  exact wpAny_bind (wpAny_pure (wpAny_bind (wpAny_pure (wpAny_pure h'))))
 | cons e rest =>
  rw [List.all_cons, Bool.and_eq_true_iff] at hu
  rw [JU hu.1] at h ⊢
  exact Calls.evalArgs_plain h
theorem EM {g : Str} {p pos : Pos} {a : Addr} {fo : Obj} {fd : FuncData} {F : List D → FOut} {args : List Expr} {fa : AEnv → Res (List Bv)} {k' : Nat} (hn : Sim G k sc (.Name g p) (Qb (.glob (.ref a)))) (hfo : G.B.get? a = some fo) (hfd : fo.data = .func fd)
  (hF : Yd G k' (.ref a) F) (hk : k' ≤ k) (ha : YS G k sc args fa) (hu : args.all QO = true) : Sim G k sc (.Call (.Name g p) args [] pos) (QV F fa) := by
 intro cx ok ρ S s r Q E out
 show wpAny G.M cx.A (do callWith pos (← eval (.Name g p) cx.env) [] (backTo pos (starEach args cx.env)) []) Q E s
 refine wpAny_bind (hn cx ok ρ S s r _ _ ?_)
 intro v h₁ t₁ S₁ r₁ j₁ x₁ v₁
 have hv : v = .ref a := by cases j₁; rfl
 subst hv
 refine Calls.callWith_function (o := fo) (fd := fd) (Zy hu ?_)
 refine ha pos cx ok ρ S₁ { s with heap := h₁, toks := t₁ } r₁ _ _ ?_
 refine out.step (x₁) fun bs ρ' out vs h₂ t₂ S₂ r₂ j₂ x₂ v₂ => ?_
 refine ⟨⟨r₂.base _ _ hfo, hfd⟩, ?_⟩
 obtain ⟨ds, hds, out⟩ := out.ob
 exact Ox (s := { s with heap := h₂, toks := t₂ }) hF ok hk r₂ j₂ hds Q E (out.lift (x₁.trans x₂) fun q => (v₁ q).trans (v₂ q))
end
end Mine
end

section
set_option Elab.async false
set_option maxRecDepth 100000
namespace Mine
open PySem
inductive RBs (S : Addr → Prop) (h : Heap) : List Value → List D → Prop
 | nil : RBs S h [] []
 | cons {v : Value} {d : D} {vs : List Value} {ds : List D} : RB S h v d → RBs S h vs ds → RBs S h (v :: vs) (d :: ds)
set_option tactic.hygienic true in
theorem BVals.all {G : Gd} {cx : Cx} {sc : Scope} {ρ : AEnv} {S : Addr → Prop} {h : Heap} {vs : List Value} {bs : List Bv} (q : BVals cx sc S h vs bs) (r : Rel G cx sc ρ S h) : ∀ {ds : List D}, X0 ρ bs = some ds → RBs S h vs ds := by
 induction q with
 | nil => intro ds e; cases e; exact .nil
 | cons hb _ ih =>
  intro ds e
  rw [X0] at e
  split at e
  ·rename_i d ds' hd hds
   cases e
   exact .cons (hb.rb r hd) (ih hds)
  ·cases e
noncomputable def OpN (G : Gd) (m : List Value → Sem Value) (F : List D → Option T) : Prop :=
 ∀ cx sc, CxOk G cx sc 0 → ∀ ρ S s vs ds t, Rel G cx sc ρ S s.heap → RBs S s.heap vs ds → F ds = some t → Qx G cx sc true (m vs) S s (fun S' h' v t => JJ cx S' h' v t) (.ok t ρ)
noncomputable def Xc (F : List D → Option T) (fa : AEnv → Res (List Bv)) : AEnv → Res T := fun ρ => (fa ρ).bind fun bs ρ₁ => ob (X0 ρ₁ bs) fun ds => ob (F ds) fun t => .ok t ρ₁
theorem UT {M : Model} {A : Around} {E : Value → Shared → Prop} {s : Shared} {pos : Pos} {f : Value} {first : List Value} {args : List (Bool × Sem Value)} {Q : Value → Shared → Prop} (hf : ∀ a, f ≠ .ref a) (hplain : args.any (·.1) = false)
  (h : wpAny M A (evalArgs f true args []) (fun a s₁ => wpAny M A (call f (first ++ a.pos) a.kw) Q E s₁) E s) : wpAny M A (callWith pos f first args []) Q E s := by
 unfold callWith
 refine wpAny_bind (wpAny_holding (wpAny_mono h (fun a s₁ h₁ => wpAny_bind (wpAny_standAt ?_)) fun _ _ x => x))
 simp only [hplain, List.any_nil, Bool.or_false]
 have hk : keeperOf f = pure .machine := by
  unfold keeperOf
  cases f <;> first | rfl | exact absurd rfl (hf _)
 rw [hk]
 refine wpAny_bind (wpAny_pure ?_)
 exact wpAny_bind (wpAny_mono h₁ (fun r s₂ hr => wpAny_bind (wpAny_holding (wpAny_point (wpAny_pure hr)))) fun _ _ x => x)
theorem Ur {pos : Pos} {env : Env} : ∀ (es : List Expr), es.all QO = true → (backTo pos (starEach es env)).any (·.1) = false
 | [], _ => rfl
 | e :: r, h => by
  rw [List.all_cons, Bool.and_eq_true_iff] at h
  rw [JU h.1]
  show (false || (backTo pos (starEach r env)).any (·.1)) = false
  rw [Ur r h.2]; rfl
section
variable {G : Gd} {k : Nat} {sc : Scope}
theorem D4 {g : Str} {p pos : Pos} {f : Value} {F : List D → Option T} {args : List Expr} {fa : AEnv → Res (List Bv)} (hn : Sim G k sc (.Name g p) (Qb (.glob f))) (hf : ∀ a, f ≠ .ref a) (hop : OpN G (fun vs => call f vs []) F)
  (ha : YS G k sc args fa) (hu : args.all QO = true) : Sim G k sc (.Call (.Name g p) args [] pos) (Xc F fa) := by
 intro cx ok ρ S s r Q E out
 show wpAny G.M cx.A (do callWith pos (← eval (.Name g p) cx.env) [] (backTo pos (starEach args cx.env)) []) Q E s
 refine wpAny_bind (hn cx ok ρ S s r _ _ ?_)
 intro v h₁ t₁ S₁ r₁ j₁ x₁ v₁
 have hv : v = f := by cases j₁; rfl
 subst hv
 refine UT hf (Ur args hu) (Zy hu ?_)
 refine ha pos cx ok ρ S₁ { s with heap := h₁, toks := t₁ } r₁ _ _ ?_
 refine out.step (x₁) fun bs ρ' out vs h₂ t₂ S₂ r₂ j₂ x₂ v₂ => ?_
 obtain ⟨ds, hds, out⟩ := out.ob
 obtain ⟨t, ht, out⟩ := out.ob
 exact hop cx sc (ok.mono (Nat.zero_le _)) ρ' S₂ { s with heap := h₂, toks := t₂ } vs ds t r₂ (BVals.all j₂ r₂ hds) ht Q E (out.lift (x₁.trans x₂) fun q => (v₁ q).trans (v₂ q))
end
noncomputable def Do (K : W.Frag) : D → Value → Option Bool
 | .none, c => W.kitOne [] (.type "NoneType") c
 | .bool _, c => W.kitOne [] (.type "bool") c
 | .int _, c => W.kitOne [] (.type "int") c
 | .str _, c => W.kitOne [] (.type "str") c
 | .tup _, c => W.kitOne [] (.type "tuple") c
 | .list _, c => W.kitOne [] (.type "list") c
 | .exc C, c => if OB K C then W.kitOne K (.ref C) c else none
 | _, _ => none
noncomputable def QK (K : W.Frag) : List D → Option T
 | [x, .glob c] => (Do K x c).map fun b => .sh (.bool b)
 | _ => none
theorem BC {K : W.Frag} {ds : List D} {t : T} (e : QK K ds = some t) : ∃ x c, ds = [x, .glob c] ∧ (Do K x c).map (fun b => T.sh (.bool b)) = some t := by
 cases ds with
 | nil => exact nn e
 | cons x ds =>
  cases ds with
  | nil => exact nn e
  | cons y ds =>
   cases ds with
   | nil => cases y <;> first | exact ⟨_, _, rfl, e⟩ | exact nn e
   | cons z ds => cases y <;> exact nn e
theorem QN {G : Gd} (hG : G.Ok) : OpN G (fun vs => call (.builtin "isinstance") vs []) (QK G.K) := by
 intro cx sc ok ρ S s vs ds t rel q e Q E out
 obtain ⟨x, c, rfl, e⟩ := BC e
 ·obtain ⟨b, hb, rfl⟩ := Option.map_eq_some_iff.mp e
  cases q with
  | cons qx q =>
   cases q with
   | cons qc q =>
    cases q
    have hc := qc.rv fun _ e => by cases e
    cases hc
    have nil : W.Frag.In [] s.heap := fun _ _ e => by cases e
    have fin : ∀ tk, Q (.bool b) { s with toks := tk } := fun tk => ZU out rel (.bool _)
    cases x with
    | none => rw [qx.none]; exact W.kia_one W.kitx_none nil trivial hb (fun e => by cases e) fin
    | bool i => rw [qx.bool]; exact W.kia_one W.kitx_bool nil trivial hb (fun e => by cases e) fin
    | int i => obtain ⟨_, rfl⟩ := qx.int; exact W.kia_one W.kitx_int nil trivial hb (fun e => by cases e) fin
    | str i => obtain ⟨_, rfl⟩ := qx.str; exact W.kia_one W.kitx_str nil trivial hb (fun e => by cases e) fin
    | tup ds => obtain ⟨a, o, vs, n, rfl, h1, h2, _⟩ := qx.tup; exact W.kia_one W.kitx_tuple nil ⟨o, h1, h2⟩ hb (fun e => by cases e) fin
    | list ds => obtain ⟨a, o, vs, n, rfl, h1, h2, _⟩ := qx.list; exact W.kia_one W.kitx_list nil ⟨o, h1, h2⟩ hb (fun e => by cases e) fin
    | exc C =>
     have hb : (if OB G.K C = true then W.kitOne G.K (.ref C) c else none) = some b := hb
     by_cases ha : OB G.K C = true
     ·rw [if_pos ha] at hb
      have := qx.rv fun _ e => by cases e
      cases this with
      | exc h1 h2 h3 h4 h5 =>
       exact W.kia_one (BR ha) (hG.K.keeps rel.base) ⟨_, h1, h2, by unfold W.notCls; rw [h4], h3⟩ hb (fun e => by cases e) fin
     ·rw [if_neg ha] at hb; exact nn hb
    | range _ _ _ => exact nn hb
    | glob _ => exact nn hb
    | dict _ _ => exact nn hb
    | obj _ _ _ => exact nn hb
end Mine
end

section
set_option Elab.async false
set_option maxRecDepth 100000
namespace Mine
open PySem
noncomputable def Jv (C : Addr) (fa : AEnv → Res (List D)) : AEnv → Res Fl := fun ρ => (fa ρ).bind fun ds ρ₁ => if ds.length ≤ 1000 then .exc C ρ₁ else .stuck
section
variable {G : Gd} {k : Nat} {sc : Scope}
set_option tactic.hygienic true in
theorem Cw {x : Str} {C : Addr} {bm : List Value} {newId Bn initId : String} {np cpos pos : Pos} {args : List Expr} {fa : AEnv → Res (List D)} (hG : G.Ok) (hq : G.quiet = true) (O : PyProof.Rows.OwnCls x C bm newId G.mg G.B) (FB : ExcBaseFacts Bn newId initId bm)
  (hx : sc.names.lookup x = some .globalImplicit) (hd : (x == ("__debug__" : Str)) = false) (ha : W2 G k sc args fa) (hu : args.all QO = true) : Jd G k sc (.Raise (some (.Call (.Name x np) args [] cpos)) none pos) (Jv C fa) := by
 intro cx ok fn ρ S s r Q E out
 obtain ⟨tl, N, nm, q, bs, hdct, sn, sub, ab, col, dd, k0, k1, k2, k3, k5, mN, hC, hN, hni, T⟩ := O.obj
 refine wpAny_Raise_call_subT (C := C) (nm := nm) (q := q) (N := N) (bs := bs) (bm := tl) (hdct := hdct) (sn := sn) (sub := sub) (ab := ab) (col := col) (dd := dd) (k0 := k0) (k1 := k1) (k2 := k2) (k3 := k3) (k5 := k5)
  FB (mN := mN) (T.hasType FB.hasBase) (ok.hd hq) (Ur args hu) hni ?_
 have hn := OE (k := k) (sc := sc) (pos := np) hG hx O.bound (fun a e => by cases e; exact ⟨_, hC⟩) hd
 refine hn cx ok ρ S s r _ _ ?_
 intro v h₁ t₁ S₁ r₁ j₁ x₁ v₁
 refine ⟨by cases j₁; rfl, Zy hu ?_⟩
 refine ha cpos cx ok ρ S₁ { s with heap := h₁, toks := t₁ } r₁ _ _ ?_
 refine out.step (x₁) fun ds ρ' out vs h₂ t₂ S₂ r₂ j₂ x₂ v₂ => ?_
 split at out
 ·rename_i hl
  refine ⟨rfl, by show vs.length ≤ sizeLine; rw [j₂.length, sizeLine_eq]; exact omB hl, r₂.base _ _ hC, hN.keeps r₂.base, T.keeps r₂.base, fun h₃ e m => ?_⟩
  obtain ⟨t, m1, m2, m3⟩ := m.there
  refine out e h₃ t₂ S₂ (r₂.keeps m.keeps) ⟨(x₁.trans x₂).none m.new, _, _, m1, rfl, rfl, rfl, rfl, .inl rfl⟩ ((x₁.trans x₂).trans (Ext.of_keeps m.keeps))
 ·exact out.elim
end
noncomputable def DV (K : W.Frag) (C' : Addr) (i : Nat) (f g : AEnv → Res Fl) : AEnv → Res Fl := fun ρ => match f ρ with
 | .ok fl ρ₁ => .ok fl ρ₁
 | .exc C ρ₁ => if W.mroIn K C (.ref C') == some true then (match g (ρ₁.set i (some (.sh (.exc C)))) with
   | .ok fl ρ₂ => .ok fl (ρ₂.set i none)
   | _ => .stuck) else .stuck
 | .stuck => .stuck
noncomputable def Gd.loud (G : Gd) : Gd := { G with quiet := false }
theorem Rel.loud {G : Gd} {cx : Cx} {sc : Scope} {ρ : AEnv} {S : Addr → Prop} {h : Heap} {A' : Around} (r : Rel G cx sc ρ S h) (hok : ∀ v, A'.handled = some v → ∃ C, RV S h v (.exc C)) : Rel G.loud { cx with A := A' } sc ρ S h :=
 ⟨r.base, r.keep, r.ff, r.ns, r.cells, r.sdom, r.sok, r.sloc, r.scell, r.live, r.clean, hok, r.vars, r.inj, r.dok⟩
theorem Rel.unloud {G : Gd} {cx : Cx} {sc : Scope} {ρ : AEnv} {S : Addr → Prop} {h : Heap} {A' : Around} (hok : ∀ v, cx.A.handled = some v → ∃ C, RV S h v (.exc C)) (r : Rel G.loud { cx with A := A' } sc ρ S h) : Rel G cx sc ρ S h :=
 ⟨r.base, r.keep, r.ff, r.ns, r.cells, r.sdom, r.sok, r.sloc, r.scell, r.live, r.clean, hok, r.vars, r.inj, r.dok⟩
theorem BM {G : Gd} {cx : Cx} {sc : Scope} {ρ : AEnv} {S : Addr → Prop} {s : Shared} {i : Nat} {n : Str} {pos : Pos} {M : Model} {A : Around} {E : Value → Shared → Prop} {Q : Unit → Shared → Prop} (ok : CxOk G cx sc 0) (fn : FnOk G cx) (r : Rel G cx sc ρ S s.heap) (hx : (Qg sc)[i]? = some n) (hk : sc.names.lookup n = some .local) (hdn : Xn n = true)
  (hQ : ∀ h' tk, Rel G cx sc (ρ.set i none) S h' → Ext S s.heap S h' → (∀ v t, FG cx S s.heap v t → FG cx S h' v t) → Q () { s with heap := h', toks := tk }) : wpAny M A (do bindName cx.env n .none; unbindBehindTheSuite cx.env n pos) Q E s := by
 have hkf : cx.env.scope.kind = .function := by rw [ok.hsc]; exact ok.hk
 have kd : ∀ y, cx.env.kindOf y = sc.names.lookup y := fun y => by unfold Env.kindOf; rw [ok.hsc]
 obtain ⟨m, hm⟩ := r.ns
 have hm0 := hm
 obtain ⟨oL, es, ep, eL, dL, _⟩ := hm0
 refine wpAny_nameGoes_keeps ((kd n).trans hk) hm (by rw [hkf]; rfl) fun h' v n' k => ?_
 have n'' := n'
 obtain ⟨oL', es', ep', eL', dL', _⟩ := n''
 have x' : Ext S s.heap S h' := Dp eL (by rintro (⟨_, vs, n, q⟩ | ⟨vs, q⟩) <;> (rw [dL] at q; cases q)) r.sloc k ⟨_, eL'⟩
 have ow' : ∀ {a d}, X2 S s.heap a d → X2 S h' a d := fun {a d} q => q.ext x' fun o eo => (k.2 a (by
  rintro rfl
  obtain ⟨o', ho', _, vs, n, hd⟩ := q.cls
  rw [eL] at ho'; cases ho'; rw [dL] at hd; cases hd)).trans eo
 have cellsame : ∀ y c, cx.env.cells.lookup y = some c → ∀ w, s.heap.IsCell c w → h'.IsCell c w := fun y c q w n => n.sameBut k (fn.loc y c q)
 have hb : ∀ y w, y ≠ n → Var cx.env s.heap y w → Var cx.env h' y w := fun y w hy q => by
  rcases q with ⟨a, m₁, b, c⟩ | ⟨a, c, b, d⟩
  ·refine .inl ⟨a, _, n', ?_⟩
   rw [if_neg hy, ← b.agree hm y]; exact c
  ·exact .inr ⟨a, c, b, cellsame y c b _ d⟩
 have hf : ∀ y w, y ≠ n → Var cx.env h' y w → Var cx.env s.heap y w := fun y w hy q => by
  rcases q with ⟨a, m₁, b, c⟩ | ⟨a, c, b, d⟩
  ·refine .inl ⟨a, m, hm, ?_⟩
   have := b.agree n' y
   rw [if_neg hy] at this
   rw [← this]; exact c
  ·obtain ⟨w₀, n₀⟩ := r.cells y c b
   exact .inr ⟨a, c, b, by rw [IsCell.inj d (cellsame y c b _ n₀)]; exact n₀⟩
 have neName : ∀ (j : Nat) (y : Str), (Qg sc)[j]? = some y → j ≠ i → y ≠ n := fun j y hy hj q => by
  subst q
  obtain ⟨h1, e1⟩ := List.getElem?_eq_some_iff.mp hx
  obtain ⟨h2, e2⟩ := List.getElem?_eq_some_iff.mp hy
  exact hj ((List.getElem_inj ok.nodup).mp (e2.trans e1.symm))
 have ne : ∀ (j : Nat) u, (ρ.set i none)[j]? = some (some u) → j ≠ i ∧ ρ[j]? = some (some u) := fun j u q => by
  by_cases hj : j = i
  ·exfalso
   subst hj
   by_cases hl : j < ρ.length
   ·rw [List.getElem?_set_self hl] at q; cases q
   ·rw [List.getElem?_eq_none (by rw [List.length_set]; exact Nat.le_of_not_lt hl)] at q; cases q
  ·rw [List.getElem?_set_ne (Ne.symm hj)] at q; exact ⟨hj, q⟩
 refine hQ h' _ ⟨fun b o q => (k.2 b (by rintro rfl; have := fn.bh _ _ q; rw [fn.lnew] at this; cases this)).trans (r.base b o q), fun b o q => ?_, fun env he => ?_, ⟨_, n'⟩, fun y c q => let ⟨w, n⟩ := r.cells y c q; ⟨w, cellsame y c q w n⟩, fun b q => let ⟨o, eo⟩ := r.sdom b q; x'.dom b o eo, r.sok, r.sloc, r.scell,
  fun y a hdy q => ?_, fun j y mm d hy hj => r.clean j y mm d hy (ne j _ hj).2, fun v q => let ⟨C, e⟩ := r.hok v q; ⟨C, e.ext x'⟩, fun j y u hy hu => ?_, fun j l y z mm m' d d' u hy hz hj hl a b => ?_, fun j y mm ks ds hy hj hvy => r.dok j y mm ks ds hy (ne j _ hj).2 (hf y _ (neName j y hy (ne j _ hj).1) hvy)⟩ x' fun v t q => ?_
 ·obtain ⟨sl, q₁, k₁⟩ := r.keep b o q
  exact ⟨sl, (k.2 b (by rintro rfl; rw [fn.lnew] at q; cases q)).trans q₁, k₁⟩
 ·obtain ⟨a, L, o, b, c, d, es, n, q⟩ := r.ff env he
  by_cases hL : L = cx.env.locals
  ·subst hL; exact ⟨a, _, _, b, c, eL', es', ep', dL'⟩
  ·exact ⟨a, L, o, b, c, (k.2 L hL).trans d, es, n, q⟩
 ·have hy : y ≠ n := by rintro rfl; rw [hdn] at hdy; cases hdy
  obtain ⟨o, eo⟩ := r.live y a hdy (hf y _ hy q)
  exact x'.dom a o eo
 ·obtain ⟨hj, hu⟩ := ne j u hu
  obtain ⟨w, hw, tw⟩ := r.vars j y u hy hu
  refine ⟨w, hb y w (neName j y hy hj) hw, ?_⟩
  cases u with
  | sh d => exact RV.ext x' tw
  | ow m d =>
   obtain ⟨a, rfl, n1, ow, n2⟩ := tw
   refine ⟨a, rfl, n1, ?_, n2⟩
   rcases ow.cases with ow | ⟨ks, ds, rfl, ow⟩
   ·exact (ow' ow).v
   ·refine DictAt.map x'.carry (fun o eo => ⟨o.slots, (k.2 a ?_).trans eo⟩) ow
    rintro rfl
    exact r.dok j y m ks ds hy hu hw
 ·obtain ⟨hji, hj⟩ := ne j _ hj
  obtain ⟨hli, hl⟩ := ne l _ hl
  exact r.inj j l y z mm m' d d' u hy hz hj hl (hf y _ (neName j y hy hji) a) (hf z _ (neName l z hz hli) b)
 ·cases t with
  | sh d => exact RV.ext x' q
  | ow m d => obtain ⟨a, rfl, n1, ow, n2⟩ := q; exact ⟨a, rfl, n1, ow' ow, n2⟩
section
variable {G : Gd} {k : Nat} {sc : Scope}
set_option tactic.hygienic true in
theorem Fd {body suite : List Stmt} {b₀ : Stmt} {x n : Str} {np hp pos : Pos} {C' : Addr} {i : Nat} {f g : AEnv → Res Fl} (hG : G.Ok) (hq : G.quiet = true) (hb : Yt G k sc body f) (hs : Yt G.loud k sc (b₀ :: suite) g)
  (hn : Sim G.loud k sc (.Name x np) (Qb (.glob (.ref C')))) (hx : (Qg sc)[i]? = some n) (hk : sc.names.lookup n = some .local) (hdn : Xn n = true)
  (hty : W.typeIn G.K (.ref C') = some (.type "type")) (hcl : (W.clsIn G.K C').isSome = true) (hbe : W.mroIn G.K C' (.type "BaseException") = some true) :
  Jd G k sc (.Try body [.ExceptHandler (some (.Name x np)) (some n) (b₀ :: suite) hp] [] [] pos) (DV G.K C' i f g) := by
 intro cx ok fn ρ S s r Q E out
 refine wpAny_Try_except ?_
 refine hb cx ok fn ρ S s r _ _ ?_
 unfold DV at out
 cases hf : f ρ with
 | stuck => rw [hf] at out; exact out.elim
 | ok fl ρ₁ =>
  rw [hf] at out
  intro a h₁ t₁ S₁ r₁ j₁ x₁ v₁
  have := out a h₁ t₁ S₁ r₁ j₁ x₁ v₁
  cases a <;> first | exact this | exact wpAny_execs_nil this
 | exc C ρ₁ =>
  rw [hf] at out
  simp only at out
  split at out
  rotate_left
  ·exact out.elim
  rename_i hmro
  have hmro : W.mroIn G.K C (.ref C') = some true := beq_iff_eq.mp hmro
  intro e h₁ t₁ S₁ r₁ f₁ x₁
  refine Ue (B := G.B) (h := s.heap) (s := { s with heap := h₁, toks := t₁ }) ok.fr r₁.ff ok.top f₁ x₁.dom fun h₂ k₂ f₂ => ?_
  have r₂ := r.kpE r₁ k₂ f₁ f₂
  have x₂ := Ext.kpE (G := G) x₁ k₂ f₁
  refine Jc (B := G.B) (s := { s with heap := h₂, toks := t₁ }) f₂ fun h₃ k₃ f₃ => ?_
  have r₃ := r.kpE r₂ k₃ f₂.fly f₃
  have x₃ := Ext.kpE (G := G) x₂ k₃ f₂.fly
  refine wpAny_handleBy_cons (codeAny_handlers_test ?_) (by intro q; cases q)
  let A' := cx.A.mark (some (.ref e))
  let cx' : Cx := { cx with A := A' }
  have hA' : A'.handled = some (.ref e) := rfl
  have ok' : CxOk G.loud cx' sc k := { hsc := ok.hsc, hk := ok.hk, hg := ok.hg, hb := ok.hb, fr := ok.fr, top := ok.top, hd := (fun q => by cases q), room := ok.room, nodup := ok.nodup, bh := ok.bh }
  have fn' : FnOk G.loud cx' := ⟨⟨fn.bh, fn.lnew, fn.cap, fn.loc⟩, fn.has⟩
  have exc₃ : ∀ S', RV S' h₃ (.ref e) (.exc C) := fun S' => by
   obtain ⟨_, oe, vs, T, oT, ts, a1, a2, a0, a3, a4, _⟩ := f₃
   exact .exc a1 a2 a0 a3 a4
  have hok₃ : ∀ v, A'.handled = some v → ∃ C, RV S₁ h₃ v (.exc C) := fun v q => by rw [hA'] at q; cases q; exact ⟨C, exc₃ _⟩
  have rl₃ : Rel G.loud cx' sc ρ₁ S₁ h₃ := Rel.loud r₃ hok₃
  refine hn cx' ok' ρ₁ S₁ { s with heap := h₃, toks := t₁ } rl₃ _ _ ?_
  intro v h₄ t₄ S₄ r₄ j₄ x₄ v₄
  have hv : v = .ref C' := by cases j₄; rfl
  subst hv
  have exc₄ : RV S₄ h₄ (.ref e) (.exc C) := (exc₃ S₁).ext x₄
  have X₄ : G.K.In h₄ := hG.K.keeps r₄.base
  cases exc₄ with
  | exc e1 e2 e3 e4 e5 =>
  refine Vd (s := { s with heap := h₄, toks := t₄ }) X₄ e1 e2 hty hcl hbe hmro ?_
  simp only [if_true]
  refine codeAny_handlers_suite_as ?_
  have f₄ : FlyT s.heap h₄ e C := by
   obtain ⟨hne, oe, vs, T, oT, ts, a1, a2, a0, a3, a4, a5, a6, a7, a8, a9, a10, a11⟩ := f₃
   exact ⟨hne, oe, vs, T, oT, ts, x₄.exact a1 (.inr (.inr ⟨_, a3⟩)) (.fields a3), a2, a0, a3, a4, a5, a6, a7, x₄.exact a8 (.inr (.inr ⟨_, a10⟩)) (.fields a10), a9, a10, a11⟩
  have x₄' := x₃.trans x₄
  refine Jc (B := G.B) (h := s.heap) (s := { s with heap := h₄, toks := t₄ }) f₄ fun h₅ k₅ f₅ => ?_
  have r4' : Rel G cx sc ρ₁ S₄ h₄ := Rel.unloud (fun v q => by rw [ok.hd hq] at q; cases q) r₄
  have r₅ : Rel G cx sc ρ₁ S₄ h₅ := r.kpE r4' k₅ f₄.fly f₅
  have x₅ := Ext.kpE (G := G) x₄' k₅ f₄.fly
  have exc₅ : ∀ S', RV S' h₅ (.ref e) (.exc C) := fun S' => by
   obtain ⟨_, oe, vs, T, oT, ts, a1, a2, a0, a3, a4, _⟩ := f₅
   exact .exc a1 a2 a0 a3 a4
  have rl₅ : Rel G.loud cx' sc ρ₁ S₄ h₅ := Rel.loud r₅ (fun v q => by rw [hA'] at q; cases q; exact ⟨C, exc₅ _⟩)
  refine Ww (s := { s with heap := h₅, toks := t₄ }) (ok'.mono (Nat.zero_le _)) fn'.toFnCx rl₅ hx (.inl hk) (t := .sh (.exc C)) (.inr ⟨_, rfl⟩) (exc₅ S₄) _ _ ?_
  intro _ h₆ t₆ S₆ r₆ _ x₆ _
  refine hs cx' ok' fn' _ S₆ { s with heap := h₆, toks := t₆ } r₆ _ _ ?_
  cases hg : g (ρ₁.set i (some (.sh (.exc C)))) with
  | stuck => rw [hg] at out; exact out.elim
  | exc C₂ ρ₂ => rw [hg] at out; exact out.elim
  | ok fl ρ₂ =>
   rw [hg] at out
   intro a h₇ t₇ S₇ r₇ j₇ x₇ _
   have r7' : Rel G cx sc ρ₂ S₇ h₇ := Rel.unloud (fun v q => by rw [ok.hd hq] at q; cases q) r₇
   refine BM (s := { s with heap := h₇, toks := t₇ }) (ok.mono (Nat.zero_le _)) fn r7' hx hk hdn fun h₈ t₈ r₈ x₈ rt => ?_
   refine out a h₈ t₈ S₇ r₈ ?_ (((x₅.trans x₆).trans x₇).trans x₈) fun q => by cases q
   cases a <;> cases fl <;> first | exact j₇ | exact rt _ _ j₇
end
end Mine
end

section
set_option Elab.async false
set_option maxRecDepth 100000
namespace Mine
open PySem PyProof.Rows
noncomputable def Dc (G : Gd) (k : Nat) (sc : Scope) (op : BoolOp) (es : List Expr) (f : AEnv → Res T) : Prop :=
 ∀ pos cx, CxOk G cx sc k → ∀ ρ S s, Rel G cx sc ρ S s.heap → Qx G cx sc true (boolOp pos op (evalEach es cx.env)) S s (fun S' h' v t => JJ cx S' h' v t) (f ρ)
noncomputable def G2 : BoolOp → Bool
 | .And => true
 | .Or => false
noncomputable def eBo (op : BoolOp) (f : AEnv → Res Bv) (g : AEnv → Res T) : AEnv → Res T := fun ρ => (f ρ).bind fun a ρ₁ => ob (a.get ρ₁) fun x => ob (asB x) fun b => if b == G2 op then g ρ₁ else .ok (.sh (.bool b)) ρ₁
section
variable {G : Gd} {k : Nat} {sc : Scope} {op : BoolOp}
theorem DJ {x : Expr} {f : AEnv → Res T} (h : Sim G k sc x f) : Dc G k sc op [x] f := fun _ cx ok ρ S s r => h cx ok ρ S s r
theorem Cs {x y : Expr} {rest : List Expr} {f : AEnv → Res Bv} {g : AEnv → Res T} (hx : Qf G k sc x f) (hr : Dc G k sc op (y :: rest) g) : Dc G k sc op (x :: y :: rest) (eBo op f g) := by
 intro pos cx ok ρ S s r
 show Qx G cx sc true (do
  let v ← eval x cx.env
  standAt pos
  let t ← holding [v] (truthy v)
  match op, t with
  | .And, false | .Or, true => pure v
  | _, _ => boolOp pos op (evalEach (y :: rest) cx.env)) S s _ _
 refine Qx.bind (hx cx ok ρ S s r) fun a ρ₁ va h₁ t₁ S₁ _ r₁ ja x₁ v₁ => ?_
 refine Qx.standAt (Qx.ob fun d hd => Qx.ob fun b hb => ?_)
 obtain rfl := K8 hb
 obtain rfl := (YD.rb ja r₁ hd).bool
 intro Q E out
 refine wpAny_bind (wpAny_holding (wpAny_truthy_bool ?_))
 cases op <;> cases b
 ·exact wpAny_pure (out _ h₁ t₁ S₁ r₁ (.bool _) (Ext.refl ..) fun _ => QA.refl _ _)
 ·exact hr pos cx ok ρ₁ S₁ _ r₁ Q E out
 ·exact hr pos cx ok ρ₁ S₁ _ r₁ Q E out
 ·exact wpAny_pure (out _ h₁ t₁ S₁ r₁ (.bool _) (Ext.refl ..) fun _ => QA.refl _ _)
theorem Cm {es : List Expr} {pos : Pos} {f : AEnv → Res T} (h : Dc G k sc op es f) : Sim G k sc (.BoolOp op es pos) f := fun cx ok ρ S s r => h pos cx ok ρ S s r
end
noncomputable def GB : D → Option T
 | .bool b => some (.sh (.bool !b))
 | _ => none
theorem GF {G : Gd} : Op1 G (unaryOp .Not) GB := by
 intro cx sc ok ρ S s v x t rel rx e Q E out
 unfold GB at e; split at e
 ·cases e; rw [rx.bool]
  exact not_value (wpAny_truthy_bool (ZU out rel (tk := s.toks) (.bool _)))
 ·cases e
theorem Vg {G : Gd} {k : Nat} {sc : Scope} {pos : Pos} {x : Str} {i : Int} {t : Tok} (hG : G.Ok) (hx : sc.names.lookup x = some .globalImplicit) (hv : G.mg x = some (.int i t)) (hd : (x == ("__debug__" : Str)) = false) : Sim G k sc (.Name x pos) (Qb (.int i)) := by
 intro cx ok ρ S s r Q E out
 refine Calls.Name_function_global (by rw [ok.hsc]; exact ok.hk) (by unfold Env.kindOf; rw [ok.hsc]; exact hx) (Calls.loadGlobal_global (mg := G.mg) (by rw [ok.hg]; exact hG.g.keeps r.base) hv ?_) hd
 exact out _ s.heap s.toks _ r (.int i t) (Ext.refl ..) fun _ => QA.refl _ _
noncomputable def Cv (ds : List D) (i : Int) : Option D := if 0 ≤ i then (if i < 2 ^ 63 then ds[i.toNat]? else none) else if -(2 ^ 63) ≤ i ∧ -(ds.length : Int) ≤ i then ds[(i + ds.length).toNat]? else none
noncomputable def QT : D → D → Option T
 | .tup ds, .int i => (Cv ds i).map .sh
 | .list ds, .int i => (Cv ds i).map .sh
 | _, _ => none
theorem WM {i : Int} {n : Nat} (h0 : 0 ≤ i) (h1 : i < n) : seqIndex? i n = some i.toNat := by
 unfold seqIndex?
 have h2 : ¬ (i < 0) := by exact Int.not_lt.mpr h0
 simp only [h2, if_false]
 rw [if_pos (by simp only [Bool.and_eq_true, decide_eq_true_eq]; lia)]
set_option tactic.hygienic true in
theorem BY {S : Addr → Prop} {h : Heap} {vs : Array Value} {ds : List D} {i : Int} {d : D} (q : RVs S h vs.toList ds) (e : Cv ds i = some d) :
  ∃ v, RV S h v d ∧ -(2 ^ 63) ≤ i ∧ i < 2 ^ 63 ∧ ((0 ≤ i ∧ vs[i.toNat]? = some v ∧ seqIndex? i vs.size = some i.toNat) ∨ (i < 0 ∧ -(vs.size : Int) ≤ i ∧ vs[(i + vs.size).toNat]? = some v ∧ seqIndex? i vs.size = some (i + vs.size).toNat)) := by
 have hl : vs.size = ds.length := by rw [← q.length]; simp
 unfold Cv at e
 split at e
 ·split at e
  ·obtain ⟨v, hv, rv⟩ := q.get e
   have hv' : vs[i.toNat]? = some v := by simpa using hv
   have := (Array.getElem?_eq_some_iff.mp hv').1
   refine ⟨v, rv, by lia, by omega, .inl ⟨by omega, hv', WM (by omega) (by lia)⟩⟩
  ·cases e
 ·split at e
  ·rename_i hn hb
   obtain ⟨v, hv, rv⟩ := q.get e
   refine ⟨v, rv, hb.1, by lia, .inr ⟨by exact Int.not_le.mp hn, by lia, by rw [hl]; simpa using hv, seqIndex_neg (by exact Int.not_le.mp hn) (by lia)⟩⟩
  ·cases e
theorem Fo {x y : D} {t : T} (e : QT x y = some t) : ∃ ds i d, (y = .int i ∧ (x = .tup ds ∨ x = .list ds)) ∧ Cv ds i = some d ∧ t = .sh d := by
 cases x with
 | tup ds =>
  cases y with
  | int i => obtain ⟨d, h, q⟩ := Option.map_eq_some_iff.mp e; exact ⟨ds, i, d, ⟨rfl, .inl rfl⟩, h, q.symm⟩
  | _ => exact nn e
 | list ds =>
  cases y with
  | int i => obtain ⟨d, h, q⟩ := Option.map_eq_some_iff.mp e; exact ⟨ds, i, d, ⟨rfl, .inr rfl⟩, h, q.symm⟩
  | _ => exact nn e
 | _ => exact nn e
theorem Vi {G : Gd} {k : Nat} {sc : Scope} {value slice : Expr} {pos : Pos} {f g : AEnv → Res Bv} (hl : Qf G k sc value f) (hr : Qf G k sc slice g) (hs : ∀ o i, subscripted slice false o i = operate [o, i] (getItem o i)) :
  Sim G k sc (.Subscript value slice pos) (Qq QT f g) := by
 intro cx ok ρ S s rel
 show Qx G cx sc true (do let a ← eval value cx.env; let b ← holding [a] (eval slice cx.env); standAt pos; subscriptTail value slice a b) S s _ _
 refine WS (K := fun x y ρ₂ => ob (QT x y) fun t => .ok t ρ₂) hl hr ok rel fun ρ' S' h' tk v w x y rel' rx ry => ?_
 refine Qx.standAt (Qx.ob fun t ht => ?_)
 intro Q E out
 obtain ⟨ds, i, d, hxy, hd, rfl⟩ := Fo ht
 obtain ⟨u, rfl⟩ := RB.int (hxy.1 ▸ ry)
 rcases hxy.2 with rfl | rfl
 ·obtain ⟨a, o, vs, n, rfl, h1, h2, h3, q⟩ := rx.tup
  obtain ⟨y, rv, b1, b2, hy⟩ := BY q hd
  have it : IsTup h' a vs := ⟨o, h1, h2, n, h3⟩
  have fin := out y h' tk S' rel' rv (Ext.refl ..) fun _ => QA.refl _ _
  refine tail_any (s := { s with heap := h', toks := tk }) it.typeIs slot_tuple_getitem.lookup ?_ (hs _ _)
  rcases hy with ⟨_, e1, e2⟩ | ⟨_, _, e1, e2⟩
  ·exact getItem_tuple it b1 b2 e2 e1 fin
  ·exact getItem_tuple it b1 b2 e2 e1 fin
 ·obtain ⟨a, o, vs, n, rfl, h1, h2, h3, q⟩ := rx.list
  obtain ⟨y, rv, b1, b2, hy⟩ := BY q hd
  have it : h'.IsList a vs := ⟨o, h1, h2, n, h3⟩
  have fin := out y h' tk S' rel' rv (Ext.refl ..) fun _ => QA.refl _ _
  refine tail_any (s := { s with heap := h', toks := tk }) it.typeIs slot_list_getitem.lookup ?_ (hs _ _)
  rcases hy with ⟨e0, e1, _⟩ | ⟨e0, e0', e1, _⟩
  ·exact wpAny_getItem_list it e0 b2 e1 fin
  ·exact wpAny_getItem_list_neg it e0 e0' b1 e1 fin
noncomputable def W7 (ds : List D) (lo hi : Option Int) : List D := (ds.drop (lo.elim 0 (clipAt ds.length))).take (hi.elim ds.length (clipAt ds.length) - lo.elim 0 (clipAt ds.length))
noncomputable def YB (x : D) (lo hi : Option Int) : Option T := match x with
 | .tup ds => if ds.length ≤ 1000000 then some (.sh (.tup (W7 ds lo hi))) else none
 | .list ds => if ds.length ≤ 1000000 then some (.ow true (.list (W7 ds lo hi))) else none
 | _ => none
noncomputable def Fx (G : Gd) (k : Nat) (sc : Scope) (e : Option Expr) (f : AEnv → Res (Option Int)) : Prop :=
 ∀ cx, CxOk G cx sc k → ∀ ρ S s, Rel G cx sc ρ S s.heap → Qx G cx sc true (evalPart e cx.env) S s (fun _ _ v b => IsPart v b) (f ρ)
noncomputable def ZA : AEnv → Res (Option Int) := fun ρ => .ok none ρ
noncomputable def YT (f : AEnv → Res Bv) : AEnv → Res (Option Int) := fun ρ => (f ρ).bind fun a ρ₁ => ob ((a.get ρ₁).bind asI) fun i => .ok (some i) ρ₁
theorem Z5 {G : Gd} {k : Nat} {sc : Scope} : Fx G k sc none ZA := fun _ _ _ _ _ r => Qx.pure r .none
theorem Zo {G : Gd} {k : Nat} {sc : Scope} {e : Expr} {f : AEnv → Res Bv} (h : Qf G k sc e f) : Fx G k sc (some e) (YT f) := by
 intro cx ok ρ S s r Q E out
 refine h cx ok ρ S s r Q E ?_
 refine out.step0 fun a ρ' out v h' tk S' rel j x vs => ?_
 obtain ⟨i, hi, out⟩ := out.ob
 obtain ⟨t, rfl⟩ := (YD.rb j rel (Gu hi)).int
 exact out _ h' tk S' rel (.int i t) x vs
theorem V8 (lo hi : Option Int) (n : Nat) : Builtin.Slice.sliceAdjust lo hi 1 (n : Int) = (((lo.elim 0 (clipAt n) : Nat) : Int), ((hi.elim n (clipAt n) : Nat) : Int)) := by
 have h1 : ¬ ((1 : Int) < 0) := by decide
 unfold Builtin.Slice.sliceAdjust
 have clip : ∀ v : Int, (if v < 0 then max (v + (n : Int)) 0 else min v (n : Int)) = ((clipAt n v : Nat) : Int) := fun v => by
  rw [clipAt_cast]; split <;> lia
 simp only [h1, if_false, clip]
 cases lo <;> cases hi <;> simp
theorem Be (a b : Nat) : Builtin.Slice.slicePlaces (a : Int) (b : Int) 1 = b - a := by
 unfold Builtin.Slice.slicePlaces
 have h1 : (1 : Int) > 0 := by exact Int.ofNat_nonneg _
 simp only [h1, if_true, Int.ediv_one]
 split <;> omega
section
variable {prog : Program} {w : World} {A : Around} {E : Value → Shared → Prop} {s : Shared}
theorem Wl {v : Value} {p : Option Int} {Q : Option Int → Shared → Prop} (hv : IsPart v p) (h : Q p s) : wpAny (model prog w) A (Builtin.Slice.slicePartIndex v) Q E s := by
 cases hv with
 | none => exact slicePart_none h
 | int i t => exact slicePart_int h
theorem WA {sl : Addr} {vl vu : Value} {lo hi : Option Int} {n : Nat} {Q : Int × Int × Nat → Shared → Prop} (hs : s.heap.IsSliceOf sl vl vu .none) (pl : IsPart vl lo) (pu : IsPart vu hi)
  (h : Q (((lo.elim 0 (clipAt n) : Nat) : Int), 1, hi.elim n (clipAt n) - lo.elim 0 (clipAt n)) s) :
  wpAny (model prog w) A (Builtin.Slice.sliceApplied (.ref sl) (pure (n : Int))) Q E s := by
 obtain ⟨os, hos, hcs, hds⟩ := id hs
 unfold Builtin.Slice.sliceApplied Builtin.Slice.sliceFields
 refine wpAny_bind (wpAny_bind (wpAny_field hos hds (x := vl) rfl (wpAny_bind (wpAny_field hos hds (x := vu) rfl (wpAny_bind (wpAny_field hos hds (x := .none) rfl (wpAny_pure ?_)))))))
 refine wpAny_bind (slicePart_none ?_)
 show wpAny _ _ (if ((1 : Int) == 0) = true then _ else _) _ _ s
 rw [if_neg (by decide)]
 refine wpAny_bind (Wl pl (wpAny_bind (Wl pu (wpAny_bind (wpAny_pure ?_)))))
 show wpAny _ _ (match Builtin.Slice.sliceAdjust lo hi 1 (n : Int) with | (lo, hi) => pure (lo, (1 : Int), Builtin.Slice.slicePlaces lo hi 1)) _ _ s
 rw [V8]
 show wpAny _ _ (pure (_, (1 : Int), Builtin.Slice.slicePlaces _ _ 1)) _ _ s
 rw [Be]
 exact wpAny_pure h
theorem Co (xs : Array Value) (a k : Nat) : ((List.range k).filterMap fun (j : Nat) => xs[((a : Int) + (j : Int) * 1).toNat]?).toArray = ((xs.toList.drop a).take k).toArray := by
 have e : (fun (k : Nat) => xs[((a : Int) + (k : Int) * 1).toNat]?) = fun k => xs[a + k]? := by
  funext k
  have : ((a : Int) + (k : Int) * 1).toNat = a + k := by exact (Nat.add_assoc _ _ _).symm
  rw [this]
 rw [e]
 have := pick_run xs a k
 rw [List.filterMap_map] at this
 have e2 : ((fun x => xs[x]?) ∘ fun x => a + x) = fun k => xs[a + k]? := rfl
 rw [e2] at this
 rw [this]
theorem Wc {t sl : Addr} {items : Array Value} {vl vu : Value} {lo hi : Option Int} {Q : Value → Shared → Prop} (ht : IsTup s.heap t items) (hs : s.heap.IsSliceOf sl vl vu .none) (pl : IsPart vl lo) (pu : IsPart vu hi)
  (h0 : (items.toList.drop (lo.elim 0 (clipAt items.size))).take (hi.elim items.size (clipAt items.size) - lo.elim 0 (clipAt items.size)) = items.toList → Q (.ref t) s)
  (h : Q (.ref s.heap.objs.size) { s with heap := s.heap.push { cls := .type "tuple", data := .seq ((items.toList.drop (lo.elim 0 (clipAt items.size))).take (hi.elim items.size (clipAt items.size) - lo.elim 0 (clipAt items.size))).toArray } })
  (hsz : items.size ≤ sizeLine) : wpAny (model prog w) A (getItem (.ref t) (.ref sl)) Q E s := by
 have hdrop : sizeOk (.seq ((items.toList.drop (lo.elim 0 (clipAt items.size))).take (hi.elim items.size (clipAt items.size) - lo.elim 0 (clipAt items.size))).toArray) := by
  show _ ≤ sizeLine
  rw [List.size_toArray, List.length_take, List.length_drop, Array.length_toList]
  lia
 obtain ⟨os, hos, hcs, hds⟩ := id hs
 have hTs : s.TypeIs (.ref sl) "slice" := ⟨os, hos, hcs⟩
 unfold getItem
 try with_reducible refine wpAny_holding ?_
 first | refine wpAny_bind (wpAny_pure ?_) | skip
 refine wpAny_bind (wpAny_sequenceKey ht.typeIs (by decide) ?_)
 refine wpAny_bind (wpAny_callSpecial?_slot (name := Str.ofString "__getitem__") ht.typeIs slot_tuple_getitem
  (wpAny_call_entry slot_tuple_getitem ht.typeIs entry_tuple_getitem ?_ (args_tuple_getitem _ _)))
 show wpAny _ _ (Builtin.Tuple.tupleItemsOf (.ref t) >>= _) _ _ s
 refine wpAny_bind (tupleItemsOf_ ht ?_)
 refine wpAny_bind (wpAny_typeOf hTs ?_)
 rw [if_pos (by decide)]
 refine wpAny_bind (WA hs pl pu ?_)
 generalize ha : (lo.elim 0 (clipAt items.size) : Nat) = a at *
 generalize hk : hi.elim items.size (clipAt items.size) - a = k at *
 show wpAny _ _ (if ((a : Int) == 0 && (1 : Int) == 1 && k == items.size) = true then _ else _) _ _ s
 by_cases hw : ((a : Int) == 0 && (1 : Int) == 1 && k == items.size) = true
 ·rw [if_pos hw]
  simp only [Bool.and_eq_true, beq_iff_eq] at hw
  have ha0 : a = 0 := by lia
  have hq : Q (.ref t) s := h0 (by rw [ha0, hw.2, List.drop_zero]; exact List.take_of_length_le (by simp))
  obtain ⟨o, ho, hc, n, hd⟩ := id ht
  refine wpAny_bind (m := Builtin.Tuple.tupleIsExact _) ?_
  unfold Builtin.Tuple.tupleIsExact
  refine wpAny_bind (wpAny_typeOf ht.typeIs (wpAny_pure ?_))
  rw [if_pos (by decide)]
  refine wpAny_bind (wpAny_rule ?_)
  exact wpAny_pure ⟨_, rfl, wpAny_pure hq⟩
 ·rw [if_neg hw, Co items a k]
  first
   | exact wpAny_bind (m := Builtin.Tuple.tupleExact _) (wpAny_newObj_type (wpAny_pure ⟨_, rfl, wpAny_pure h⟩) hdrop)
   | exact wpAny_bind (m := Builtin.Tuple.tupleExact _) (wpAny_newObj_type (wpAny_bind (wpAny_pure (wpAny_pure ⟨_, rfl, wpAny_pure h⟩))) hdrop)
   | exact wpAny_bind (wpAny_bind (m := Builtin.Tuple.tupleExact _) (wpAny_newObj_type (wpAny_pure (wpAny_pure ⟨_, rfl, wpAny_pure h⟩)) hdrop))
   | exact wpAny_bind (wpAny_bind (m := Builtin.Tuple.tupleExact _) (wpAny_newObj_type (wpAny_pure ⟨_, rfl, wpAny_pure h⟩) hdrop))
end
noncomputable def ZS (f : AEnv → Res Bv) (g h : AEnv → Res (Option Int)) : AEnv → Res T := fun ρ => (f ρ).bind fun a ρ₁ => (g ρ₁).bind fun lo ρ₂ => (h ρ₂).bind fun hi ρ₃ => ob (a.get ρ₃) fun x => ob (YB x lo hi) fun t => .ok t ρ₃
theorem RVs.cut {S : Addr → Prop} {h : Heap} {vs : Array Value} {ds : List D} (q : RVs S h vs.toList ds) (lo hi : Option Int) :
  RVs S h ((vs.toList.drop (lo.elim 0 (clipAt vs.size))).take (hi.elim vs.size (clipAt vs.size) - lo.elim 0 (clipAt vs.size))) (W7 ds lo hi) := by
 have hl : vs.size = ds.length := by rw [← q.length]; simp
 unfold W7
 rw [hl]
 exact (q.drop _).take _
theorem Cu {x : D} {lo hi : Option Int} {t : T} (e : YB x lo hi = some t) : ∃ ds : List D, ds.length ≤ 1000000 ∧ ((x = .tup ds ∧ t = .sh (.tup (W7 ds lo hi))) ∨ (x = .list ds ∧ t = .ow true (.list (W7 ds lo hi)))) := by
 cases x with
 | tup ds => obtain ⟨h, q⟩ := ifs e; exact ⟨ds, h, .inl ⟨rfl, (Option.some.inj q).symm⟩⟩
 | list ds => obtain ⟨h, q⟩ := ifs e; exact ⟨ds, h, .inr ⟨rfl, (Option.some.inj q).symm⟩⟩
 | _ => exact nn e
theorem ZM {G : Gd} {k : Nat} {sc : Scope} {value : Expr} {lower upper : Option Expr} {p pos : Pos} {f : AEnv → Res Bv} {g h : AEnv → Res (Option Int)} (hv : Qf G k sc value f) (hl : Fx G k sc lower g) (hu : Fx G k sc upper h) :
  Sim G k sc (.Subscript value (.Slice lower upper none p) pos) (ZS f g h) := by
 intro cx ok ρ S s rel
 show Qx G cx sc true (do let a ← eval value cx.env; let b ← holding [a] (eval (.Slice lower upper none p) cx.env); standAt pos; subscriptTail value (.Slice lower upper none p) a b) S s _ _
 unfold ZS
 refine Qx.bind (hv cx ok ρ S s rel) fun a ρ₁ va h₁ t₁ S₁ _ r₁ ja x₁ v₁ => ?_
 intro Q E out
 refine wpAny_bind (wpAny_holding (wpAny_Slice ?_))
 refine hl cx ok ρ₁ S₁ { s with heap := h₁, toks := t₁ } r₁ _ _ ?_
 refine out.step0 fun lo ρ₂ out vl h₀ t₀ S₀ r₀ pl x₀ v₀ => ?_
 refine hu cx ok ρ₂ S₀ { s with heap := h₀, toks := t₀ } r₀ _ _ ?_
 refine out.step (x₀) fun hi ρ₃ out vu h₂ t₂ S₂ r₂ pu x₂' v₂' => ?_
 have x₂ := x₀.trans x₂'
 have v₂ : true = true → QA cx.env h₁ h₂ := fun q => (v₀ q).trans (v₂' q)
 rw [evalPart_none]
 refine wpAny_pure ?_
 refine wpAny_bind (wpAny_standAt ?_)
 have ja₂ : YD cx sc S₂ h₂ va a := YD.ext ja x₂ (v₂ rfl)
 obtain ⟨x, hx, out⟩ := out.ob
 obtain ⟨t, ht, out⟩ := out.ob
 have rx := ja₂.rb r₂ hx
 have hsl : subscripted (.Slice lower upper none p) false va (.ref h₂.objs.size) = operate [.ref h₂.objs.size, va] (getItem va (.ref h₂.objs.size)) := rfl
 have rp := Rel.push (s := { s with heap := h₂ }) r₂ { cls := .type "slice", data := .fields #[vl, vu, .none] }
 have xp : Ext S₂ h₂ S₂ _ := Xw { cls := .type "slice", data := .fields #[vl, vu, .none] }
 obtain ⟨ds, hlen, ⟨rfl, rfl⟩ | ⟨rfl, rfl⟩⟩ := Cu ht
 ·obtain ⟨a', o, vs, n, rfl, h1, h2, h3, q⟩ := rx.tup
  have hls : vs.size = ds.length := by rw [← q.length]; exact Array.length_toList.symm
  have it : IsTup (h₂.push { cls := .type "slice", data := .fields #[vl, vu, .none] }) a' vs := ⟨o, Heap.get?_push_of_some _ h1, h2, n, h3⟩
  refine tail_any (s := { s with heap := h₂.push { cls := .type "slice", data := .fields #[vl, vu, .none] }, toks := t₂ }) it.typeIs slot_tuple_getitem.lookup ?_ hsl
  refine Wc it (Heap.IsSliceOf.new ..) pl pu (fun he => ?_) ?_ (by rw [hls, sizeLine_eq]; exact Nat.le_trans hlen (by decide))
  ·refine out _ _ t₂ S₂ rp ?_ (x₂.trans xp) fun q => (v₂ q).trans (r₂.same (XZ _))
   have := q.cut lo hi
   rw [he] at this
   exact .tup (Heap.get?_push_of_some _ h1) h2 h3 (this.ext xp)
  ·refine out _ _ t₂ S₂ (Rel.push (s := { s with heap := h₂.push _ }) rp _) ?_ ((x₂.trans xp).trans (Xw _)) fun q => ((v₂ q).trans (r₂.same (XZ _))).trans (rp.same (XZ _))
   exact .tup (Heap.get?_push_size _ rfl) rfl rfl (((q.cut lo hi).ext xp).ext (Xw _))
 ·obtain ⟨a', o, vs, n, rfl, h1, h2, h3, q⟩ := rx.list
  have hls : vs.size = ds.length := by rw [← q.length]; exact Array.length_toList.symm
  have it : (h₂.push { cls := .type "slice", data := .fields #[vl, vu, .none] }).IsList a' vs := ⟨o, Heap.get?_push_of_some _ h1, h2, n, h3⟩
  refine tail_any (s := { s with heap := h₂.push { cls := .type "slice", data := .fields #[vl, vu, .none] }, toks := t₂ }) it.typeIs slot_list_getitem.lookup ?_ hsl
  refine wpAny_getItem_list_slice it (Heap.IsSliceOf.new ..) pl pu .none (by decide) ?_ (by rw [hls, sizeLine_eq]; exact Nat.le_trans hlen (by decide))
  refine out _ _ t₂ S₂ (Rel.push (s := { s with heap := h₂.push _ }) rp _) ?_ ((x₂.trans xp).trans (Xw _)) fun q => ((v₂ q).trans (r₂.same (XZ _))).trans (rp.same (XZ _))
  refine Zw (s := { s with heap := h₂.push _ }) rp (XZ _) (Heap.get?_none_of_le (Nat.le_refl _)) (Heap.get?_push_size _ rfl) ?_
  rw [slicePick_plain]
  simpa using ((q.cut lo hi).ext xp).ext (Xw _)
noncomputable def Xg : D → D → Option T
 | .int a, .int b => some (.sh (.int (a + b)))
 | .list xs, .list ys => if xs.length + ys.length ≤ 1000000 then some (.ow true (.list (xs ++ ys))) else none
 | .tup xs, .tup ys => if xs.length + ys.length ≤ 1000000 then some (.sh (.tup (xs ++ ys))) else none
 | _, _ => none
theorem RVs.nil_iff {S : Addr → Prop} {h : Heap} {vs : List Value} {ds : List D} (q : RVs S h vs ds) : vs = [] ↔ ds = [] := by
 have := q.length
 constructor
 ·rintro rfl; exact List.length_eq_zero_iff.mp this.symm
 ·rintro rfl; exact List.length_eq_zero_iff.mp this
theorem Q4 {G : Gd} : Op2 G (binaryOp .Add) Xg := by
  intro cx sc ok ρ S s v w x y t rel rx ry e Q E out
  cases x with
  | int a =>
   cases y with
   | int b =>
    obtain ⟨_, rfl⟩ := rx.int; obtain ⟨_, rfl⟩ := ry.int; cases e
    exact PySem.P.add_int (ZU out rel (.int _ _))
   | _ => exact nn e
  | list xs =>
   cases y with
   | list ys =>
    · obtain ⟨hl, e⟩ := ifs e
      cases e
      obtain ⟨a, ⟨cls, dd, data, sl⟩, vs, n, rfl, h1, h2, h3, q1⟩ := rx.list
      obtain ⟨b, ⟨cls', dd', data', sl'⟩, ws, m, rfl, g1, g2, g3, q2⟩ := ry.list
      simp only at h2 h3 g2 g3
      subst h2 h3 g2 g3
      have l1 : vs.size = xs.length := by rw [← q1.length]; simp
      have l2 : ws.size = ys.length := by rw [← q2.length]; simp
      refine concat_meets ⟨_, h1, rfl⟩ ⟨_, g1, rfl⟩ noFill_list_add seq_list_add PySem.F.slot_list_add PySem.F.entry_list_add (PySem.F.args_list_add_2 _ _) (list_addW a b vs ws n m dd dd' sl sl' (by rw [l1, l2, sizeLine_eq]; exact omB hl)) ⟨h1, g1, ?_⟩
      refine out _ _ s.toks S (rel.push _) ?_ (Xw _) fun _ => rel.same (XZ _)
      refine Zw rel (XZ _) (Heap.get?_none_of_le (Nat.le_refl _)) (Heap.get?_push_size _ rfl) ?_
      rw [Array.toList_append]
      exact (q2.append q1).ext (Xw _)
   | _ => exact nn e
  | tup xs =>
   cases y with
   | tup ys =>
    · obtain ⟨hl, e⟩ := ifs e
      cases e
      obtain ⟨a, ⟨cls, dd, data, sl⟩, vs, n, rfl, h1, h2, h3, q1⟩ := rx.tup
      obtain ⟨b, ⟨cls', dd', data', sl'⟩, ws, m, rfl, g1, g2, g3, q2⟩ := ry.tup
      simp only at h2 h3 g2 g3
      subst h2 h3 g2 g3
      have l1 : vs.size = xs.length := by rw [← q1.length]; simp
      have l2 : ws.size = ys.length := by rw [← q2.length]; simp
      by_cases c1 : vs.isEmpty = true
      · refine concat_meets ⟨_, h1, rfl⟩ ⟨_, g1, rfl⟩ noFill_tuple_add seq_tuple_add PySem.F.slot_tuple_add PySem.F.entry_tuple_add (PySem.F.args_tuple_add_2 _ _) (tuple_addW0 a b vs ws n m dd dd' sl sl' c1) ⟨h1, g1, ?_⟩
        have : xs = [] := (q1.nil_iff).mp (by simpa using c1)
        subst this
        exact out _ _ s.toks S rel (.tup g1 rfl rfl q2) (Ext.refl ..) fun _ => QA.refl _ _
      · by_cases c2 : ws.isEmpty = true
        · refine concat_meets ⟨_, h1, rfl⟩ ⟨_, g1, rfl⟩ noFill_tuple_add seq_tuple_add PySem.F.slot_tuple_add PySem.F.entry_tuple_add (PySem.F.args_tuple_add_2 _ _) (tuple_addW1 a b vs ws n m dd dd' sl sl' c1 c2) ⟨h1, g1, ?_⟩
          have : ys = [] := (q2.nil_iff).mp (by simpa using c2)
          subst this
          rw [List.append_nil] at out
          exact out _ _ s.toks S rel (.tup h1 rfl rfl q1) (Ext.refl ..) fun _ => QA.refl _ _
        · refine concat_meets ⟨_, h1, rfl⟩ ⟨_, g1, rfl⟩ noFill_tuple_add seq_tuple_add PySem.F.slot_tuple_add PySem.F.entry_tuple_add (PySem.F.args_tuple_add_2 _ _) (tuple_addW2 a b vs ws n m dd dd' sl sl' c1 c2 (by rw [l1, l2, sizeLine_eq]; exact omB hl)) ⟨h1, g1, ?_⟩
          refine out _ _ s.toks S (rel.push _) ?_ (Xw _) fun _ => rel.same (XZ _)
          refine .tup (Heap.get?_push_size _ rfl) rfl rfl ?_
          rw [Array.toList_append]
          exact (q2.append q1).ext (Xw _)
   | _ => exact nn e
  | _ => exact nn e
noncomputable def Wr : D → D → Option T
 | .int a, .int b => if small a || small b then some (.sh (.int (a * b))) else none
 | .list [x], .int n => if 0 ≤ n ∧ n ≤ 1000000 then some (.ow true (.list (List.replicate n.toNat x))) else none
 | _, _ => none
theorem RVs.replicate {S : Addr → Prop} {h : Heap} {v : Value} {d : D} (q : RV S h v d) : ∀ (n : Nat), RVs S h (List.replicate n v) (List.replicate n d)
 | 0 => .nil
 | n + 1 => by rw [List.replicate_succ, List.replicate_succ]; exact .cons q (RVs.replicate q n)
theorem VF (v : Value) : ∀ (n : Nat) (acc : Array Value), (List.foldl (fun x1 x2 => x1 ++ x2) acc (List.replicate n #[v])).toList = acc.toList ++ List.replicate n v
 | 0, acc => by simp
 | n + 1, acc => by
  rw [List.replicate_succ, List.foldl_cons, VF v n]
  simp [List.replicate_succ]
theorem U2 {G : Gd} : Op2 G (binaryOp .Mult) Wr := by
  intro cx sc ok ρ S s v w x y t rel rx ry e
  cases x with
  | int a =>
   cases y with
   | int b => exact Gq cx sc ok ρ S s v w _ _ t rel rx ry e
   | _ => exact nn e
  | list xs =>
   cases xs with
   | nil => exact nn e
   | cons d xs =>
   cases xs with
   | cons _ _ => exact nn e
   | nil =>
   cases y with
   | int n =>
    · obtain ⟨hn, e⟩ := ifs e
      cases e
      obtain ⟨a, ⟨cls, dd, data, sl⟩, vs, m, rfl, h1, h2, h3, q1⟩ := rx.list
      obtain ⟨u, rfl⟩ := ry.int
      simp only at h2 h3
      subst h2 h3
      intro Q E out
      have hone : ∃ v, vs = #[v] ∧ RV S s.heap v d := by
        obtain ⟨l⟩ := vs
        simp only at q1
        cases q1 with | cons q r => cases r; exact ⟨_, rfl, q⟩
      obtain ⟨v, rfl, qv⟩ := hone
      refine wpAny_binaryOp_repeat_ref (T := "list") (U := "int") (by decide) ⟨_, h1, rfl⟩ (fun s' => typeIs_int s' n u) noFill_list_mul F.fills_int_mul F.slot_int_rmul repeat_list F.slot_int_index.lookup
        (call_meets F.slot_int_rmul (typeIs_int s n u) F.entry_int_rmul (F.args_int_rmul_2 _ _) (lm_int_rmul_list_any n u a #[v] m dd sl)
          ⟨h1, rfl, ⟨_, h1, rfl⟩, call_meets F.slot_list_mul ⟨_, h1, rfl⟩ F.entry_list_mul (F.args_list_mul_2 _ _)
            (lm_list_mul_any a #[v] m dd sl n u (by simp [Builtin.List.listFitsIndex]; lia) (by simp; lia) (by simp [Builtin.List.listTooLong, sizeLine]; lia))
            ⟨h1, ?_⟩⟩)
      refine out _ _ s.toks S (rel.push _) ?_ (Xw _) fun _ => rel.same (XZ _)
      refine Zw rel (XZ _) (Heap.get?_none_of_le (Nat.le_refl _)) (Heap.get?_push_size _ rfl) ?_
      rw [show (#[v] : Array Value).isEmpty = false from rfl]
      simp only [Bool.false_eq_true, if_false]
      rw [VF]
      exact (RVs.replicate qv n.toNat).ext (Xw _)
   | _ => exact nn e
  | _ => exact nn e
end Mine
end

section
set_option Elab.async false
set_option maxRecDepth 100000
namespace Mine
open PySem PyProof.Rows
section
variable {G : Gd}
noncomputable def one (F : D → Option T) : List D → Option T
 | [x] => F x
 | _ => none
theorem W5 {F : D → Option T} {ds : List D} {t : T} (e : one F ds = some t) : ∃ x, ds = [x] ∧ F x = some t := by
 cases ds with
 | nil => exact nn e
 | cons x ds =>
  cases ds with
  | nil => exact ⟨x, rfl, e⟩
  | cons _ _ => exact nn e
noncomputable def Hj : D → Option T
 | .list ds => if ds.length ≤ 1000000 then some (.sh (.int ds.length)) else none
 | .tup ds => if ds.length ≤ 1000000 then some (.sh (.int ds.length)) else none
 | _ => none
noncomputable def YK : List D → Option T := one Hj
theorem RBs.one {S : Addr → Prop} {h : Heap} {vs : List Value} {d : D} (q : RBs S h vs [d]) : ∃ v, vs = [v] ∧ RB S h v d := by
 cases q with | cons a b => cases b; exact ⟨_, rfl, a⟩
theorem RBs.two {S : Addr → Prop} {h : Heap} {vs : List Value} {d e : D} (q : RBs S h vs [d, e]) : ∃ v w, vs = [v, w] ∧ RB S h v d ∧ RB S h w e := by
 cases q with | cons a b => obtain ⟨w, rfl, r⟩ := b.one; exact ⟨_, _, rfl, a, r⟩
theorem ZN : OpN G (fun vs => call (.builtin "len") vs []) YK := by
 intro cx sc ok ρ S s vs ds t rel q e Q E out
 obtain ⟨d, rfl, e⟩ := W5 e
 cases d with
 | list ds =>
  obtain ⟨hl, e⟩ := ifs e
  cases e
  obtain ⟨v, rfl, r⟩ := q.one
  obtain ⟨a, o, us, n, rfl, h1, h2, h3, k⟩ := r.list
  have hs := k.length
  rw [Array.length_toList] at hs
  refine PyProof.Rows.len_list ⟨o, h1, h2, n, h3⟩ (by rw [hs]; exact Int.ofNat_lt.mpr (Nat.lt_of_le_of_lt hl (by decide))) ?_
  rw [hs]
  exact ZU out rel (.int _ _)
 | tup ds =>
  obtain ⟨hl, e⟩ := ifs e
  cases e
  obtain ⟨v, rfl, r⟩ := q.one
  obtain ⟨a, o, us, n, rfl, h1, h2, h3, k⟩ := r.tup
  have hs := k.length
  rw [Array.length_toList] at hs
  refine PyProof.Rows.len_tuple ⟨o, h1, h2, n, h3⟩ (by rw [hs]; exact Int.ofNat_lt.mpr (Nat.lt_of_le_of_lt hl (by decide))) ?_
  rw [hs]
  exact ZU out rel (.int _ _)
 | _ => exact nn e
noncomputable def YI : List D → Option T
 | [x] => (asI x).map fun n => .sh (.range 0 n 1)
 | [x, y] => (asI x).bind fun a => (asI y).map fun b => .sh (.range a b 1)
 | [x, y, z] => (asI x).bind fun a => (asI y).bind fun b => (asI z).bind fun c => if c ≠ 0 ∧ c.natAbs < 1073741824 then some (.sh (.range a b c)) else none
 | _ => none
theorem CJ {ds : List D} {t : T} (e : YI ds = some t) : (∃ n, ds = [.int n] ∧ t = .sh (.range 0 n 1)) ∨ (∃ n m, ds = [.int n, .int m] ∧ t = .sh (.range n m 1)) ∨ ∃ n m c, ds = [.int n, .int m, .int c] ∧ (c ≠ 0 ∧ c.natAbs < 1073741824) ∧ t = .sh (.range n m c) := by
 cases ds with
 | nil => exact nn e
 | cons x ds =>
  cases ds with
  | nil =>
   obtain ⟨n, h1, rfl⟩ := Option.map_eq_some_iff.mp e
   obtain rfl := JN h1
   exact .inl ⟨n, rfl, rfl⟩
  | cons y ds =>
   cases ds with
   | nil =>
    obtain ⟨n, h1, e⟩ := Option.bind_eq_some_iff.mp e
    obtain ⟨m, h2, rfl⟩ := Option.map_eq_some_iff.mp e
    obtain rfl := JN h1
    obtain rfl := JN h2
    exact .inr (.inl ⟨n, m, rfl, rfl⟩)
   | cons z ds =>
    cases ds with
    | nil =>
     obtain ⟨n, h1, e⟩ := Option.bind_eq_some_iff.mp e
     obtain ⟨m, h2, e⟩ := Option.bind_eq_some_iff.mp e
     obtain ⟨c, h3, e⟩ := Option.bind_eq_some_iff.mp e
     obtain ⟨hc, e4⟩ := ifs (c := c ≠ 0 ∧ c.natAbs < 1073741824) (a := some (T.sh (.range n m c))) e
     obtain rfl := JN h1
     obtain rfl := JN h2
     obtain rfl := JN h3
     cases e4
     exact .inr (.inr ⟨n, m, c, rfl, hc, rfl⟩)
    | cons _ _ => exact nn e
theorem RBs.three {S : Addr → Prop} {h : Heap} {vs : List Value} {d e f : D} (q : RBs S h vs [d, e, f]) : ∃ v w u, vs = [v, w, u] ∧ RB S h v d ∧ RB S h w e ∧ RB S h u f := by
 cases q with | cons a b => obtain ⟨w, u, rfl, r, r'⟩ := b.two; exact ⟨_, _, _, rfl, a, r, r'⟩
theorem JB : OpN G (fun vs => call (.type "range") vs []) YI := by
 intro cx sc ok ρ S s vs ds t rel q e Q E out
 rcases CJ e with ⟨n, rfl, rfl⟩ | ⟨n, m, rfl, rfl⟩ | ⟨n, m, c, rfl, hc, rfl⟩
 ·skip
  obtain ⟨v, rfl, r⟩ := q.one
  obtain ⟨u, rfl⟩ := r.int
  exact call_range_1 (out _ _ _ S (rel.push _) (.range (IsRange.new ..)) (Xw _) fun _ => rel.same (XZ _))
 ·skip
  obtain ⟨v, w, rfl, r, r'⟩ := q.two
  obtain ⟨u, rfl⟩ := r.int
  obtain ⟨u', rfl⟩ := r'.int
  exact call_range_2 (out _ _ _ S (rel.push _) (.range (IsRange.new ..)) (Xw _) fun _ => rel.same (XZ _))
 ·skip
  ·obtain ⟨v, w, x, rfl, r, r', r''⟩ := q.three
   obtain ⟨u, rfl⟩ := r.int
   obtain ⟨u', rfl⟩ := r'.int
   obtain ⟨u'', rfl⟩ := r''.int
   exact call_range_3 hc.1 (out _ _ _ S (rel.push _) (.range (IsRange.new ..)) (Xw _) fun _ => rel.same (XZ _)) (.inl (PyProof.noPylong_small hc.2))
end
noncomputable def WG (lo hi st : Int) : Nat := (Builtin.Range.rangeSize lo hi st).toNat
noncomputable def Uq (lo hi st : Int) : List D := (List.range (WG lo hi st)).map fun (i : Nat) => .int (lo + i * st)
noncomputable def ZF (lo hi st : Int) : Bool := Builtin.Range.small lo hi st && decide (Builtin.Range.rangeSize lo hi st ≤ 1000000) && decide (0 ≤ Builtin.Range.rangeSize lo hi st)
theorem WE {lo hi st : Int} (h : ZF lo hi st = true) : Builtin.Range.small lo hi st = true ∧ Builtin.Range.rangeSize lo hi st = (WG lo hi st : Int) ∧ WG lo hi st ≤ 1000000 := by
 unfold ZF at h
 simp only [Bool.and_eq_true, decide_eq_true_eq] at h
 refine ⟨h.1.1, ?_, ?_⟩ <;> unfold WG <;> lia
theorem RVs.of_get {S : Addr → Prop} {h : Heap} : ∀ {vs : List Value} {ds : List D}, vs.length = ds.length → (∀ (j : Nat) v, vs[j]? = some v → ∃ d, ds[j]? = some d ∧ RV S h v d) → RVs S h vs ds
 | [], [], _, _ => .nil
 | [], _ :: _, e, _ => by simp at e
 | _ :: _, [], e, _ => by simp at e
 | v :: vs, d :: ds, e, k => by
  obtain ⟨d', hd, q⟩ := k 0 v rfl
  simp at hd; subst hd
  exact .cons q (RVs.of_get (by simpa using e) fun j w hw => by simpa using k (j + 1) w (by simpa using hw))
theorem KO {S : Addr → Prop} {h : Heap} {lo st : Int} {n : Nat} {acc : Array Value} (q : ItemsOf (fun i v => ∃ t, v = .int (lo + i * st) t) acc n) : RVs S h acc.toList ((List.range n).map fun (i : Nat) => D.int (lo + i * st)) := by
 refine RVs.of_get (by simp [q.1]) fun j v hv => ?_
 have hv' : acc[j]? = some v := by simpa using hv
 obtain ⟨t, rfl⟩ := q.2 j v hv'
 have hj : j < n := by
  have := (Array.getElem?_eq_some_iff.mp hv').1
  rw [q.1] at this; exact this
 exact ⟨.int (lo + j * st), by simp [hj], .int _ _⟩
section
variable {prog : Program} {w : World} {A : Around} {E : Value → Shared → Prop} {s : Shared}
theorem Wa {Q : List Value → Shared → Prop} {r : Addr} {a b c : Int} {t u v : Tok} {n : Nat} (hh : A.handled = none) (hr : IsRange s.heap r a b c t u v) (hsmall : Builtin.Range.small a b c = true)
  (hn : Builtin.Range.rangeSize a b c = n) (hlen : n ≤ 2 ^ 24)
  (hQ : ∀ h' tk (acc : Array Value), (∀ b o', s.heap.get? b = some o' → h'.get? b = some o') → ItemsOf (fun i v => ∃ t, v = .int (a + i * c) t) acc n → Q acc.toList { s with heap := h', toks := tk }) :
  wpAny (model prog w) A (collect (.ref r)) Q E s := by
 unfold collect
 refine wpAny_bind (wpAny_runValue (codeAny_builtin F.entry_proto_collect ?_))
 rw [Around.under_plainId F.plain_proto_collect _]
 show wpAny _ A.in1 (newList [] >>= fun l => again (.builtin "list.__iadd__" ⟨[l, .ref r], []⟩)) _ _ s
 refine wpAny_bind (wpAny_newObj_type ?_)
 refine wpAny_pure ⟨plainId_quiet F.plain_list_iadd _, codeAny_builtin F.entry_list_iadd ?_⟩
 rw [Around.under_plainId F.plain_list_iadd _]
 show wpAny _ A.in1 (Builtin.List.listExtendWith (.ref s.heap.objs.size) (.ref r) (.ref s.heap.objs.size)) _ _ _
 have hS : (s.heap.push { cls := .type "list", data := .seq ([] : List Value).toArray }).get? s.heap.objs.size = some { cls := .type "list", data := .seq #[] 0 } := Heap.get?_push_size _ rfl
 have fin' : ∀ h' tk (acc : Array Value) c', (∀ b o, b ≠ s.heap.objs.size → (s.heap.push { cls := .type "list", data := .seq ([] : List Value).toArray }).get? b = some o → h'.get? b = some o) → h'.get? s.heap.objs.size = some { cls := .type "list", dict := none, data := .seq acc c', slots := #[] } → ItemsOf (fun i v => ∃ t, v = .int (a + i * c) t) acc n → wpAny (model prog w) A (match Value.ref s.heap.objs.size with
   | Value.ref a => do
    match (← load a).data with
     | Data.seq xs _ => pure xs.toList
     | _ => unsupported "internal:collect"
   | _ => unsupported "internal:collect") Q E { s with heap := h', toks := tk } := by
  intro h' tk acc c' hk hS' hacc
  show wpAny _ A (load s.heap.objs.size >>= _) _ _ _
  refine wpAny_bind (wpAny_load hS' ?_)
  refine wpAny_pure ?_
  exact hQ _ _ _ (fun b o' hb => hk b o' (Nat.ne_of_lt (Heap.lt_size hb)) (Heap.get?_push_of_some _ hb)) hacc
 refine wpAny_mono (wpAny_extend_range (A := A) (R := fun r s' => ∃ h' tk acc c', (∀ b o, b ≠ s.heap.objs.size → (s.heap.push { cls := .type "list", data := .seq ([] : List Value).toArray }).get? b = some o → h'.get? b = some o) ∧ h'.get? s.heap.objs.size = some { cls := .type "list", dict := none, data := .seq acc c', slots := #[] } ∧ ItemsOf (fun i v => ∃ t, v = .int (a + i * c) t) acc n ∧ r = .ok (.ret (.ref s.heap.objs.size)) ∧ s' = { s with heap := h', toks := tk })
  (s := { s with heap := s.heap.push { cls := .type "list", data := .seq ([] : List Value).toArray } }) hh (Heap.get?_push_of_some _ hr) hsmall hn hlen _ _ 0 hS fun h' tk acc c' hk hS' hacc => ⟨h', tk, acc, c', hk, hS', hacc, rfl, rfl⟩) (fun fin s' h => ?_) (fun e s' h => ?_)
 ·cases fin with
  | done f =>
   obtain ⟨h', tk, acc, c', hk, hS', hacc, e, rfl⟩ := h
   cases e
   exact fin' h' tk acc c' hk hS' hacc
  | again c' => exact ⟨h.1, codeAny_mono h.2 fun r s'' hr => by obtain ⟨h', tk, acc, c', hk, hS', hacc, rfl, rfl⟩ := hr; exact fin' h' tk acc c' hk hS' hacc⟩
 ·obtain ⟨_, _, _, _, _, _, _, e, _⟩ := h; cases e
end
open AutoSeq1 (wpAny_loadPart') in
theorem UC {r : Addr} {a b c : Int} {t u v : Tok} {n : Nat} (hsmall : Builtin.Range.small a b c = true) (hn : Builtin.Range.rangeSize a b c = n) (hlen : n ≤ 2 ^ 24) :
  Meets (Builtin.«tuple.__new__» ⟨[.type "tuple", .ref r], []⟩)
   (fun A R s => A.handled = none ∧ IsRange s.heap r a b c t u v ∧ ∀ (h' : Heap) (tk : Nat) (acc : Array Value), (∀ b o', s.heap.get? b = some o' → h'.get? b = some o') → ItemsOf (fun i v => ∃ t, v = .int (a + i * c) t) acc n → R (.ok (.ret (.ref h'.objs.size))) { s with heap := h'.push { cls := .type "tuple", data := .seq acc }, toks := tk }) :=
 .of_wp fun prog w A R s h => by
  obtain ⟨hp, g, d, tk, os⟩ := s; obtain ⟨hh, ht, h⟩ := h
  have hsub := sub_tuple_self
  have hinit := init_tuple_lookup
  have hmh := madeHere_tuple
  have hT : Shared.TypeIs ⟨hp, g, d, tk, os⟩ (.ref r) "range" := ⟨_, ht, rfl⟩
  wp_walk using wpAny_loadPart' ht, wpAny_typeOf hT, Wa (A := A.in1) hh ht hsmall hn hlen
  intro h' tk' acc hk hacc
  show wpAny _ _ (Builtin.Tuple.tupleExact acc.toList.toArray >>= fun v => ret v) _ _ _
  unfold Builtin.Tuple.tupleExact
  refine wpAny_bind (wpAny_newObj_type ?_ (by show acc.toList.toArray.size ≤ sizeLine; have := hacc.1; simp only [Array.toArray_toList]; rw [sizeLine_eq]; exact le_of_eq_of_le this hlen))
  refine wpAny_pure ⟨_, rfl, ?_⟩
  have e : acc.toList.toArray = acc := by simp
  rw [e]
  exact h h' tk' acc hk hacc
theorem Kr {prog : Program} {w : World} {A : Around} {E : Value → Shared → Prop} {s : Shared} {r : Addr} {a b c : Int} {t u v : Tok} {n : Nat} {Q : Value → Shared → Prop} (hh : A.handled = none) (hr : IsRange s.heap r a b c t u v) (hsmall : Builtin.Range.small a b c = true)
  (hn : Builtin.Range.rangeSize a b c = n) (hlen : n ≤ 2 ^ 24)
  (h : ∀ (h' : Heap) (tk : Nat) (acc : Array Value), (∀ b o', s.heap.get? b = some o' → h'.get? b = some o') → ItemsOf (fun i v => ∃ t, v = .int (a + i * c) t) acc n → Q (.ref h'.objs.size) { s with heap := h'.push { cls := .type "tuple", data := .seq acc }, toks := tk }) :
  wpAny (model prog w) A (call (.type "tuple") [.ref r]) Q E s :=
 callType_new F.called_tuple (by decide) (F.typeCall_tuple_1 _) (F.newCall_tuple_1 _) (fun obj => F.args_object_init_2 obj _) F.entry_tuple_new
  (UC hsmall hn hlen) ⟨hh, hr, fun h' tk acc hk hacc => ⟨⟨_, Heap.get?_push_size _ rfl, rfl⟩, h h' tk acc hk hacc⟩⟩
section
variable {G : Gd}
noncomputable def GV : D → Option T
 | .list ds => if ds.length ≤ 1000000 then some (.ow true (.list ds)) else none
 | .tup ds => if ds.length ≤ 1000000 then some (.ow true (.list ds)) else none
 | .range lo hi st => if ZF lo hi st then some (.ow true (.list (Uq lo hi st))) else none
 | _ => none
noncomputable def ZH : List D → Option T := one GV
theorem Rel.keepsE {cx : Cx} {sc : Scope} {ρ : AEnv} {S : Addr → Prop} {h h' : Heap} (r : Rel G cx sc ρ S h) (k : ∀ b o, h.get? b = some o → h'.get? b = some o) : Rel G cx sc ρ S h' ∧ Ext S h S h' ∧ QA cx.env h h' := ⟨r.keeps k, Ext.of_keeps k, r.same (.of_keeps k)⟩
theorem ZQ (hq : G.quiet = true) : OpN G (fun vs => call (.type "list") vs []) ZH := by
 intro cx sc ok ρ S s vs ds t rel q e Q E out
 have hsz : s.heap.get? s.heap.objs.size = none := Heap.get?_none_of_le (Nat.le_refl _)
 obtain ⟨d, rfl, e⟩ := W5 e
 cases d with
 | list ds =>
  obtain ⟨hl, e⟩ := ifs e
  cases e
  obtain ⟨v, rfl, r⟩ := q.one
  obtain ⟨a, o, us, n, rfl, h1, h2, h3, k⟩ := r.list
  have hs := k.length
  rw [Array.length_toList] at hs
  refine call_list_seq a (.inl rfl) h1 h2 h3 (fun h' c' hk hD => ?_) (by rw [hs, sizeLine_eq]; exact omB hl)
  obtain ⟨r', x', v'⟩ := rel.keepsE hk
  exact out _ h' s.toks S r' (Zw rel (.of_keeps hk) hsz hD (k.ext x')) x' fun _ => v'
 | tup ds =>
  obtain ⟨hl, e⟩ := ifs e
  cases e
  obtain ⟨v, rfl, r⟩ := q.one
  obtain ⟨a, o, us, n, rfl, h1, h2, h3, k⟩ := r.tup
  have hs := k.length
  rw [Array.length_toList] at hs
  refine call_list_seq a (.inr rfl) h1 h2 h3 (fun h' c' hk hD => ?_) (by rw [hs, sizeLine_eq]; exact omB hl)
  obtain ⟨r', x', v'⟩ := rel.keepsE hk
  exact out _ h' s.toks S r' (Zw rel (.of_keeps hk) hsz hD (k.ext x')) x' fun _ => v'
 | range lo hi st =>
  obtain ⟨hf, e⟩ := ifs e
  cases e
  obtain ⟨f1, f2, f3⟩ := WE hf
  obtain ⟨v, rfl, r⟩ := q.one
  have r := r.rv fun _ e => by cases e
  cases r with
  | range hr =>
   refine call_list_range (ok.hd hq) hr f1 f2 (by exact Nat.le_trans f3 (Nat.le_add_left _ _)) fun h' tk acc c' hk hD hacc => ?_
   obtain ⟨r', x', v'⟩ := rel.keepsE hk
   exact out _ h' tk S r' (Zw rel (.of_keeps hk) hsz hD (KO hacc)) x' fun _ => v'
 | _ => exact nn e
noncomputable def Gy : D → Option T
 | .list ds => if ds.length ≤ 1000000 then some (.sh (.tup ds)) else none
 | .tup ds => some (.sh (.tup ds))
 | .range lo hi st => if ZF lo hi st then some (.sh (.tup (Uq lo hi st))) else none
 | _ => none
noncomputable def Yz : List D → Option T := one Gy
theorem JF (hq : G.quiet = true) : OpN G (fun vs => call (.type "tuple") vs []) Yz := by
 intro cx sc ok ρ S s vs ds t rel q e Q E out
 obtain ⟨d, rfl, e⟩ := W5 e
 cases d with
 | list ds =>
  obtain ⟨hl, e⟩ := ifs e
  cases e
  obtain ⟨v, rfl, r⟩ := q.one
  obtain ⟨a, o, us, n, rfl, h1, h2, h3, k⟩ := r.list
  have hs := k.length
  rw [Array.length_toList] at hs
  refine call_tuple_list ⟨o, h1, h2, n, h3⟩ (fun h' hk => ?_) (by rw [hs, sizeLine_eq]; exact omB hl)
  have hk' : ∀ b o, s.heap.get? b = some o → (h'.push { cls := .type "tuple", data := .seq us }).get? b = some o := fun b o e => Heap.get?_push_of_some _ (hk b o e)
  obtain ⟨r', x', v'⟩ := rel.keepsE hk'
  exact out _ _ s.toks S r' (.tup (Heap.get?_push_size _ rfl) rfl rfl (k.ext x')) x' fun _ => v'
 | tup ds =>
  cases e
  obtain ⟨v, rfl, r⟩ := q.one
  obtain ⟨a, o, us, n, rfl, h1, h2, h3, k⟩ := r.tup
  exact call_tuple_tup ⟨o, h1, h2, n, h3⟩ (ZU out rel (tk := s.toks) (.tup h1 h2 h3 k))
 | range lo hi st =>
  obtain ⟨hf, e⟩ := ifs e
  cases e
  obtain ⟨f1, f2, f3⟩ := WE hf
  obtain ⟨v, rfl, r⟩ := q.one
  have r := r.rv fun _ e => by cases e
  cases r with
  | range hr =>
   refine Kr (ok.hd hq) hr f1 f2 (by exact Nat.le_trans f3 (Nat.le_add_left _ _)) fun h' tk acc hk hacc => ?_
   have hk' : ∀ b o, s.heap.get? b = some o → (h'.push { cls := .type "tuple", data := .seq acc }).get? b = some o := fun b o e => Heap.get?_push_of_some _ (hk b o e)
   obtain ⟨r', x', v'⟩ := rel.keepsE hk'
   exact out _ _ tk S r' (.tup (Heap.get?_push_size _ rfl) rfl rfl (KO hacc)) x' fun _ => v'
 | _ => exact nn e
noncomputable def U6 : List D → Option (List Bool)
 | [] => some []
 | d :: ds => (asB d).bind fun b => (U6 ds).map (b :: ·)
noncomputable def Ha : D → Option T
 | .list ds => (U6 ds).map fun bs => .sh (.bool (bs.all id))
 | _ => none
noncomputable def DD : List D → Option T := one Ha
theorem D2 {S : Addr → Prop} {h : Heap} {vs : List Value} : ∀ {ds : List D} {bs : List Bool}, RVs S h vs ds → U6 ds = some bs → vs.length = bs.length ∧ ∀ (i : Nat) v, vs[i]? = some v → ∃ b, bs[i]? = some b ∧ v = .bool b := by
 induction vs with
 | nil => intro ds bs q e; cases q; cases e; exact ⟨rfl, fun i v hv => by cases hv⟩
 | cons v vs ih =>
  intro ds bs q e
  cases q with
  | cons q r =>
   obtain ⟨b, hb, e1⟩ := Option.bind_eq_some_iff.mp e
   obtain ⟨bs, hbs, rfl⟩ := Option.map_eq_some_iff.mp e1
   have := K8 hb
   subst this
   obtain ⟨l, m⟩ := ih r hbs
   cases q
   refine ⟨congrArg (· + 1) l, fun i v hv => ?_⟩
   cases i with
   | zero => cases hv; exact ⟨b, rfl, rfl⟩
   | succ i => exact m i v hv
theorem Ed (bs : List Bool) : ((List.range bs.length).all fun i => bs[i]?.getD false) = bs.all id := by
 rw [Bool.eq_iff_iff]
 simp only [List.all_eq_true, List.mem_range]
 constructor
 ·intro h b hb
  obtain ⟨i, hi, rfl⟩ := List.mem_iff_getElem.mp hb
  have := h i hi
  simpa [hi] using this
 ·intro h i hi
  have := h bs[i] (List.getElem_mem hi)
  simpa [hi] using this
theorem EI (hq : G.quiet = true) : OpN G (fun vs => call (.builtin "all") vs []) DD := by
 intro cx sc ok ρ S s vs ds t rel q e Q E out
 obtain ⟨d, rfl, e⟩ := W5 e
 cases d with
 | list ds =>
  obtain ⟨bs, hb, rfl⟩ := Option.map_eq_some_iff.mp e
  obtain ⟨v, rfl, r⟩ := q.one
  obtain ⟨a, o, us, n, rfl, h1, h2, h3, k⟩ := r.list
  obtain ⟨hlen, hget⟩ := D2 k hb
  have il : s.heap.IsList a us := ⟨o, h1, h2, n, h3⟩
  refine call_all_walk (wpAny_pyIter_list il ?_)
  have hne : a ≠ s.heap.objs.size := fun e => by rw [e] at h1; rw [Heap.get?_none_of_le (Nat.le_refl _)] at h1; cases h1
  refine ⟨_, _, _, _, _, _, fun i => bs[i]?.getD false, rfl, Walks.list (A := cx.A.in1) (ok.hd hq) _ a hne us, ⟨⟨_, Heap.get?_push_size _ rfl, rfl, rfl⟩, il.push _⟩, fun i v s' Q' E' hP hQ' => ?_, fun h' tk hk => ?_⟩
  ·obtain ⟨b, hb', rfl⟩ := hget i v (by simpa using hP)
   simp only [hb', Option.getD_some] at hQ'
   exact wpAny_truthy_bool hQ'
  ·have hs : us.size = bs.length := by rw [← hlen]; simp
   rw [hs, Ed]
   have hk' : ∀ b o, s.heap.get? b = some o → h'.get? b = some o := fun b o e => hk b o (by simp; rintro rfl; rw [Heap.get?_none_of_le (Nat.le_refl _)] at e; cases e) (Heap.get?_push_of_some _ e)
   obtain ⟨r', x', v'⟩ := rel.keepsE hk'
   exact out _ h' tk S r' (.bool _) x' fun _ => v'
 | _ => exact nn e
end
end Mine
end

section
set_option Elab.async false
set_option maxRecDepth 100000
namespace Mine
open PySem PyProof.Rows
noncomputable def Ug : List D → Option (List Int)
 | [] => some []
 | d :: ds => (asI d).bind fun i => (Ug ds).map (i :: ·)
theorem KT {d : D} {ds : List D} {ns : List Int} (e : Ug (d :: ds) = some ns) : ∃ i ms, d = .int i ∧ Ug ds = some ms ∧ ns = i :: ms := by
 obtain ⟨i, h1, e1⟩ := Option.bind_eq_some_iff.mp e
 obtain ⟨ms, h2, h3⟩ := Option.map_eq_some_iff.mp e1
 exact ⟨i, ms, JN h1, h2, h3.symm⟩
noncomputable def UI (ns : List Int) : List Int := ns.mergeSort (fun a b => decide (a ≤ b))
noncomputable def FN : D → Option T
 | .list ds => (Ug ds).bind fun ns => if ns.length < 64 then some (.ow true (.list ((UI ns).map .int))) else none
 | .tup ds => (Ug ds).bind fun ns => if ns.length < 64 then some (.ow true (.list ((UI ns).map .int))) else none
 | _ => none
noncomputable def Oc : List D → Option T := one FN
theorem B0 {S : Addr → Prop} {h : Heap} {vs : List Value} : ∀ {ds : List D} {ns : List Int}, RVs S h vs ds → Ug ds = some ns → IntsAre vs ns := by
 induction vs with
 | nil => intro ds ns q e; cases q; cases e; exact .nil
 | cons v vs ih =>
  intro ds ns q e
  cases q with
  | cons q r =>
   obtain ⟨i, ms, rfl, hn, rfl⟩ := KT e
   cases q
   exact .cons _ _ (ih r hn)
theorem BW {S : Addr → Prop} {h : Heap} {vs : List Value} {ns : List Int} (q : IntsAre vs ns) : RVs S h vs (ns.map .int) := by
 induction q with
 | nil => exact .nil
 | cons n t _ ih => exact .cons (.int n t) ih
theorem UD {ns ns' : List Int} (p : ns'.Perm ns) (s : ns'.Pairwise (· ≤ ·)) : ns' = UI ns := by
 have hs : (UI ns).Pairwise (· ≤ ·) := by
  have := List.pairwise_mergeSort (le := fun a b : Int => decide (a ≤ b)) (fun a b c h1 h2 => by simp at *; exact Int.le_trans h1 h2) (fun a b => by simp; lia) ns
  exact this.imp fun h => by simpa using h
 exact List.Perm.eq_of_pairwise (fun a b _ _ h1 h2 => by lia) s hs (p.trans (List.mergeSort_perm ns _).symm)
section
variable {prog : Program} {w : World} {A : Around} {E : Value → Shared → Prop} {s : Shared}
theorem OL {l : Addr} {o : Obj} {vs : Array Value} {n : Nat} {T : String} {ns : List Int} {Q : Value → Shared → Prop} (hT : T = "list" ∨ T = "tuple") (ho : s.heap.get? l = some o) (hc : o.cls = .type T) (hd : o.data = .seq vs n) (hI : IntsAre vs.toList ns) (h64 : vs.size < 64)
  (h : ∀ (h' : Heap) (a : Addr) (e : Nat) (out : Array Value) (ns' : List Int), (∀ b o, s.heap.get? b = some o → h'.get? b = some o) → s.heap.get? a = none → h'.get? a = some (seqObj "list" out e) → IntsAre out.toList ns' → ns'.Perm ns → ns'.Pairwise (· ≤ ·) → Q (.ref a) { s with heap := h' }) :
  wpAny (model prog w) A (call (.builtin "sorted") [.ref l]) Q E s := by
 refine Calls.call_function_entry kind_sorted plain_sorted entry_sorted (args_sorted1 _) ?_
 unfold Builtin.«sorted»
 refine wpAny_bind (m := checkCount "sorted" 1 1 _) (wpAny_pure ?_)
 refine wpAny_bind (wpAny_collect_seq l hT ho hc hd (fun h₁ hk₁ => ?_) (by rw [sizeLine_eq]; exact omL h64))
 refine wpAny_bind (wpAny_newList ?_ (by rw [Array.length_toList, sizeLine_eq]; exact omL h64))
 have hoL : (h₁.push (seqObj "list" vs.toList.toArray 0)).get? h₁.objs.size = some (seqObj "list" vs.toList.toArray 0) := Heap.get?_push_size _ rfl
 refine wpAny_bind (wpAny_holding (wpAny_call_entry slot_list_sort ⟨_, hoL, rfl⟩ entry_list_sort (list_sort_tree hoL hI (by simpa using h64) fun out ns' a1 a2 a3 => ⟨_, rfl, ?_⟩) (args_list_sort _)))
 obtain ⟨e, he⟩ := sortedHeap_at (out := out) hoL
 have hn : s.heap.get? h₁.objs.size = none := by
  cases q : s.heap.get? h₁.objs.size with
  | none => rfl
  | some o => have := Heap.lt_size (hk₁ _ _ q); exact absurd this (Nat.lt_irrefl _)
 refine wpAny_pure ⟨_, rfl, h _ _ e out ns' (fun b o eb => ?_) hn he a1 a2 a3⟩
 have hlt := Heap.lt_size (hk₁ b o eb)
 rw [sortedHeap_old (Nat.ne_of_lt hlt) (by rw [size_push']; exact Nat.lt_succ_of_lt hlt)]
 exact Heap.get?_push_of_some _ (hk₁ b o eb)
end
theorem BP {ds : List D} : ∀ {ns : List Int}, Ug ds = some ns → ds.length = ns.length := by
 induction ds with
 | nil => intro ns e; cases e; rfl
 | cons d ds ih =>
  intro ns e
  obtain ⟨i, ms, rfl, hn, rfl⟩ := KT e
  exact congrArg (· + 1) (ih hn)
set_option tactic.hygienic true in
theorem Du {G : Gd} : OpN G (fun vs => call (.builtin "sorted") vs []) Oc := by
 intro cx sc ok ρ S s vs ds t rel q e Q E out
 obtain ⟨d, rfl, e⟩ := W5 e
 cases d with
 | list ds =>
  obtain ⟨ns, hn, e⟩ := Option.bind_eq_some_iff.mp e
  split at e
  ·rename_i hl
   cases e
   obtain ⟨v, rfl, r⟩ := q.one
   obtain ⟨a, o, us, n, rfl, h1, h2, h3, k⟩ := r.list
   have hs := k.length
   rw [Array.length_toList, BP hn] at hs
   refine OL (.inl rfl) h1 h2 h3 (B0 k hn) (by exact lt_of_eq_of_lt hs hl) fun h' b e ot ns' hk hb he i1 p1 s1 => ?_
   obtain ⟨r', x', v'⟩ := rel.keepsE hk
   refine out _ h' s.toks S r' (Zw rel (.of_keeps hk) hb he ?_) x' fun _ => v'
   rw [← UD p1 s1]
   exact BW i1
  ·cases e
 | tup ds =>
  obtain ⟨ns, hn, e⟩ := Option.bind_eq_some_iff.mp e
  split at e
  ·rename_i hl
   cases e
   obtain ⟨v, rfl, r⟩ := q.one
   obtain ⟨a, o, us, n, rfl, h1, h2, h3, k⟩ := r.tup
   have hs := k.length
   rw [Array.length_toList, BP hn] at hs
   refine OL (.inr rfl) h1 h2 h3 (B0 k hn) (by exact lt_of_eq_of_lt hs hl) fun h' b e ot ns' hk hb he i1 p1 s1 => ?_
   obtain ⟨r', x', v'⟩ := rel.keepsE hk
   refine out _ h' s.toks S r' (Zw rel (.of_keeps hk) hb he ?_) x' fun _ => v'
   rw [← UD p1 s1]
   exact BW i1
  ·cases e
 | _ => exact nn e
section
variable {G : Gd} {cx : Cx} {sc : Scope} {ρ : AEnv} {S : Addr → Prop} {h h' : Heap}
theorem RV.but {S : Addr → Prop} {h h' : Heap} {a : Addr} {o : Obj} (e : h.get? a = some o) (ho : ¬ Imm o) (hs : ¬ S a) (k : ∀ b o, b ≠ a → h.get? b = some o → h'.get? b = some o) (ha : ∃ o, h'.get? a = some o) : Ext S h S h' :=
 ⟨fun _ q => q, fun b ob eb q => ⟨ob.slots, k b ob (by rintro rfl; rw [e] at eb; cases eb; exact q.elim hs ho) eb, fun _ => rfl⟩, fun b ob eb => by
  by_cases hb : b = a
  ·subst hb; exact ha
  ·exact ⟨ob, k b ob hb eb⟩⟩
theorem YU {vs : Array Value} {n : Nat} : ¬ Imm { cls := .type "list", data := .seq vs n } := by
 rintro (⟨q, _⟩ | ⟨_, q⟩)
 ·exact absurd q (by simp)
 ·cases q
theorem Rel.turn {i : Nat} {x : Str} {d d' : D} {a : Addr} {o o' : Obj} (r : Rel G cx sc ρ S h) (bh : G.B.StaysIn cx.h₀) (hx : (Qg sc)[i]? = some x) (ht : ρ[i]? = some (some (.ow true d))) (hv : Var cx.env h x (.ref a))
  (e : h.get? a = some o) (hi : ¬ Imm o) (hc : ∀ v, o.data ≠ .cell v) (hl : cx.env.locals ≠ a) (k : Heap.SameBut a h h') (e' : h'.get? a = some o') (hdd : (∃ es n, o.data = .dict es n) → ∃ es n, o'.data = .dict es n) (hk : (∃ ks ds, d' = .dict ks ds) → ∃ ks ds, d = .dict ks ds) (q' : Ext S h S h' → UB S h' a d') :
  Rel G cx sc (ρ.set i (some (.ow true d'))) S h' ∧ Ext S h S h' ∧ QA cx.env h h' := by
 obtain ⟨w, hw, b, rfl, ns, _, hn⟩ := r.vars i x _ hx ht
 cases Var.inj hv hw
 have hn := hn rfl
 have x' : Ext S h S h' := RV.but e hi ns (fun b o hb eb => (k.2 b hb).trans eb) ⟨_, e'⟩
 have lt : i < ρ.length := (List.getElem?_eq_some_iff.mp ht).1
 have hcell : ∀ y c, cx.env.cells.lookup y = some c → c ≠ a := r.notCell e hc
 have nsame : ∀ m, h.Ns cx.env.locals m → h'.Ns cx.env.locals m := fun m n => n.sameBut k hl
 have csame : ∀ y c, cx.env.cells.lookup y = some c → ∀ w, h.IsCell c w → h'.IsCell c w := fun y c q w n => n.sameBut k (hcell y c q)
 have hb : QA cx.env h h' := fun y w q => by
  rcases q with ⟨a, m₁, b, c⟩ | ⟨a, c, b, d⟩
  ·exact .inl ⟨a, m₁, nsame m₁ b, c⟩
  ·exact .inr ⟨a, c, b, csame y c b _ d⟩
 have hf : ∀ y w, Var cx.env h' y w → Var cx.env h y w := fun y w q => by
  rcases q with ⟨a, m₁, b, c⟩ | ⟨a, c, b, d⟩
  ·obtain ⟨m₀, n₀⟩ := r.ns
   exact .inl ⟨a, m₀, n₀, by rw [(nsame m₀ n₀).agree b y]; exact c⟩
  ·obtain ⟨w₀, n₀⟩ := r.cells y c b
   exact .inr ⟨a, c, b, by rw [IsCell.inj d (csame y c b _ n₀)]; exact n₀⟩
 have pick : ∀ (j : Nat) (u : T), (ρ.set i (some (T.ow true d')))[j]? = some (some u) → (j = i ∧ u = .ow true d') ∨ (j ≠ i ∧ ρ[j]? = some (some u)) := fun j u hj => by
  by_cases hji : j = i
  ·subst hji
   rw [List.getElem?_set_self lt] at hj; cases hj
   exact .inl ⟨rfl, rfl⟩
  ·rw [List.getElem?_set_ne (Ne.symm hji)] at hj
   exact .inr ⟨hji, hj⟩
 have old : ∀ (j : Nat) (m : Bool) (d₁ : D), (ρ.set i (some (T.ow true d')))[j]? = some (some (.ow m d₁)) → ∃ d₂, ρ[j]? = some (some (.ow m d₂)) ∧ ((∃ ks ds, d₁ = .dict ks ds) → ∃ ks ds, d₂ = .dict ks ds) := fun j m d₁ hj => by
  rcases pick j _ hj with ⟨rfl, q⟩ | ⟨_, q⟩
  ·cases q; exact ⟨_, ht, hk⟩
  ·exact ⟨d₁, q, id⟩
 refine ⟨⟨fun b o q => (k.2 b (by rintro rfl; rw [bh _ _ q] at hn; cases hn)).trans (r.base b o q), fun b o q => ?_, fun env he => ?_, let ⟨m, n⟩ := r.ns; ⟨m, nsame m n⟩, fun y c q => let ⟨w, n⟩ := r.cells y c q; ⟨w, csame y c q w n⟩, fun b q => let ⟨o, eo⟩ := r.sdom b q; x'.dom b o eo, r.sok, r.sloc, r.scell, fun y b hdy q => let ⟨o, eo⟩ := r.live y b hdy (hf y _ q); x'.dom b o eo, fun j y m d hy hj => ?_, fun v q => let ⟨C, e⟩ := r.hok v q; ⟨C, e.ext x'⟩, fun j y u hy hu => ?_, fun j l y z m m' d d' u hy hz hj hl a b => ?_, fun j y m ks ds hy hj hvy => ?_⟩, x', hb⟩
 ·obtain ⟨sl, q₁, k₁⟩ := r.keep b o q
  exact ⟨sl, (k.2 b (by rintro rfl; rw [q] at hn; cases hn)).trans q₁, k₁⟩
 ·obtain ⟨p, L, o₁, b, c, d, es, n, q⟩ := r.ff env he
  by_cases hLa : L = a
  ·subst hLa
   rw [e] at d; cases d
   obtain ⟨es', n', q₂⟩ := hdd ⟨es, n, q⟩
   exact ⟨p, L, _, b, c, e', es', n', q₂⟩
  ·exact ⟨p, L, o₁, b, c, (k.2 L hLa).trans d, es, n, q⟩
 ·obtain ⟨d', hj', _⟩ := old j m d hj
  exact r.clean j y m d' hy hj'
 ·rcases pick j u hu with ⟨rfl, rfl⟩ | ⟨hji, hu⟩
  ·rw [hx] at hy; cases hy
   exact ⟨_, hb _ _ hv, a, rfl, ns, q' x', fun _ => hn⟩
  ·obtain ⟨w, hw', tw⟩ := r.vars j y u hy hu
   refine ⟨w, hb y w hw', ?_⟩
   cases u with
   | sh d => exact RV.ext x' tw
   | ow m d =>
    obtain ⟨b, rfl, n1, ow, n2⟩ := tw
    refine ⟨b, rfl, n1, ow.ext x' fun o eo => ⟨o.slots, (k.2 b ?_).trans eo, fun _ => rfl⟩, n2⟩
    rintro rfl
    exact hji (r.inj j i y x m true d _ _ hy hx hu ht hw' hv)
 ·obtain ⟨d₁, h1, _⟩ := old j m d hj
  obtain ⟨d₂, h2, _⟩ := old l m' d' hl
  exact r.inj j l y z m m' d₁ d₂ u hy hz h1 h2 (hf y _ a) (hf z _ b)
 ·obtain ⟨d₁, h1, h2⟩ := old j m _ hj
  obtain ⟨ks', ds', rfl⟩ := h2 ⟨_, _, rfl⟩
  exact r.dok j y m ks' ds' hy h1 (hf y _ hvy)
theorem Rel.mutate {i : Nat} {x : Str} {ds ds' : List D} {a : Addr} {vs' : Array Value} {n' : Nat} (r : Rel G cx sc ρ S h) (bh : G.B.StaysIn cx.h₀) (hx : (Qg sc)[i]? = some x) (ht : ρ[i]? = some (some (.ow true (.list ds)))) (hv : Var cx.env h x (.ref a))
  (k : Heap.SameBut a h h') (e' : h'.get? a = some { cls := .type "list", data := .seq vs' n' }) (q' : RVs S h vs'.toList ds') :
  Rel G cx sc (ρ.set i (some (.ow true (.list ds')))) S h' ∧ Ext S h S h' ∧ QA cx.env h h' := by
 obtain ⟨w, hw, b, rfl, ns, ⟨vs, n, e, q⟩, hn⟩ := r.vars i x _ hx ht
 cases Var.inj hv hw
 have hl : cx.env.locals ≠ a := by
  rintro rfl
  obtain ⟨m', o', es, ep, e', hd', _⟩ := r.ns
  rw [e] at e'; cases e'; cases hd'
 exact r.turn bh hx ht hv e YU (by intro v q; cases q) hl k e' (by rintro ⟨_, _, q⟩; cases q) (by rintro ⟨_, _, q⟩; cases q) fun x' => ⟨vs', n', e', q'.ext x'⟩
end
noncomputable def X1 (ρ : AEnv) (i : Nat) : Option (List D) := match ρ[i]? with
 | some (some (.ow true (.list ds))) => if ds.length ≤ 1000000 then some ds else none
 | _ => none
set_option tactic.hygienic true in
theorem ZX {ρ : AEnv} {i : Nat} {ds : List D} (h : X1 ρ i = some ds) : ρ[i]? = some (some (.ow true (.list ds))) ∧ ds.length ≤ 1000000 := by
 unfold X1 at h
 split at h
 ·rename_i ds' e
  split at h
  ·cases h; exact ⟨e, by assumption⟩
  ·cases h
 ·cases h
inductive OwnL (cx : Cx) (S : Addr → Prop) (h : Heap) (x : Str) (ds : List D) : Prop
 | mk (a : Addr) (vs : Array Value) (n : Nat) (hv : Var cx.env h x (.ref a)) (e : h.get? a = some { cls := .type "list", data := .seq vs n }) (q : RVs S h vs.toList ds) (hs : vs.size = ds.length) : OwnL cx S h x ds
theorem Rel.own {G : Gd} {cx : Cx} {sc : Scope} {ρ : AEnv} {S : Addr → Prop} {h : Heap} {i : Nat} {x : Str} {ds : List D} (r : Rel G cx sc ρ S h) (hx : (Qg sc)[i]? = some x) (ht : ρ[i]? = some (some (.ow true (.list ds)))) :
  OwnL cx S h x ds := by
 obtain ⟨w, hw, a, rfl, _, ⟨vs, n, e, q⟩, _⟩ := r.vars i x _ hx ht
 exact ⟨a, vs, n, hw, e, q, by rw [← q.length]; simp⟩
theorem ZV {h : Heap} {a : Addr} {vs : Array Value} {n : Nat} (f : Array Value → Array Value) (e : h.get? a = some { cls := .type "list", data := .seq vs n }) : ∃ n', (h.update a (Obj.mapSeq f)).get? a = some { cls := .type "list", data := .seq (f vs) n' } := by
 have := Heap.get?_update_self (Obj.mapSeq f) e (by rfl)
 exact ⟨_, this⟩
noncomputable def ZP (i : Nat) (f : AEnv → Res T) : AEnv → Res T := fun ρ => ob (X1 ρ i) fun _ => (f ρ).bind fun t ρ₁ => ob (X1 ρ₁ i) fun ds => .ok (.sh .none) (ρ₁.set i (some (.ow true (.list (ds ++ [t.val])))))
noncomputable def DT (i : Nat) (f : AEnv → Res Bv) : AEnv → Res T := fun ρ => ob (X1 ρ i) fun _ => (f ρ).bind fun t ρ₁ => ob ((t.get ρ₁).bind asI) fun j => ob (X1 ρ₁ i) fun ds => if 0 ≤ j ∧ j < ds.length then ob ds[j.toNat]? fun d => .ok (.sh d) (ρ₁.set i (some (.ow true (.list (ds.eraseIdx j.toNat))))) else .stuck
noncomputable def J4 (G : Gd) (k : Nat) (sc : Scope) (e : Expr) (f : AEnv → Res T) : Prop :=
 ∀ cx, CxOk G cx sc k → FnOk G cx → ∀ ρ S s, Rel G cx sc ρ S s.heap → Qx G cx sc true (eval e cx.env) S s (fun S' h' v t => JJ cx S' h' v t) (f ρ)
theorem J4.of {G : Gd} {k : Nat} {sc : Scope} {e : Expr} {f : AEnv → Res T} (h : Sim G k sc e f) : J4 G k sc e f := fun cx ok _ => h cx ok
section
variable {G : Gd} {k : Nat} {sc : Scope}
theorem Cz {x : Str} {p apos pos : Pos} {e : Expr} {i : Nat} {f : AEnv → Res T} (he : J4 G k sc e f) (hx : (Qg sc)[i]? = some x) (hd : (x == ("__debug__" : Str)) = false) (hn : (x == ("__classdict__" : Str)) = false)
  (hu : ∀ env, backTo pos (starEach [e] env) = [(false, eval e env)]) (hline : (apos.endLine == pos.line) = true) : J4 G k sc (.Call (.Attribute (.Name x p) "append" apos) [e] [] pos) (ZP i f) := by
 intro cx ok fn ρ S s r Q E out
 obtain ⟨ds₀, h0, out⟩ := out.ob
 obtain ⟨t0, l0⟩ := ZX h0
 obtain ⟨a, vs, n, hv, ho, q, hsz⟩ := r.own hx t0
 refine wpAny_Call_method rfl (by rw [hu]; rfl) hline F.plainAttrs_list F.slot_list_append F.type_list_append ?_
 refine wpAny_Name (Zr (ok.mono (Nat.zero_le _)) hv hn rfl ?_) hd
 refine ⟨⟨_, ho, rfl⟩, fun b eb => (by cases eb; exact ⟨_, ho, rfl⟩), ?_⟩
 rw [hu]
 refine PySem.P.append_list ((he cx ok fn ρ S s r).shared _ _ (out.step0S fun t ρ₁ out v h₁ t₁ S₁ r₁ j₁ x₁ v₁ => ?_))
 obtain ⟨ds, h1, out⟩ := out.ob
 obtain ⟨e1, l1⟩ := ZX h1
 obtain ⟨a', vs', n', hv', ho', q', hsz'⟩ := r₁.own hx e1
 cases Var.inj hv' (v₁ rfl x _ hv)
 refine ⟨vs', n', by rw [hsz', sizeLine_eq]; exact Nat.le_trans l1 (by decide), ho', ?_⟩
 obtain ⟨m', hm'⟩ := ZV (fun xs => xs.push v) ho'
 obtain ⟨r₂, x₂, v₂⟩ := r₁.mutate fn.bh hx e1 hv' (Heap.SameBut.update ..) hm' (ds' := ds ++ [t.val]) (by rw [Array.toList_push]; exact RVs.append (.cons j₁ .nil) q')
 exact out _ _ t₁ S₁ r₂ .none (x₁.trans x₂) fun z => (v₁ z).trans v₂
theorem FC {x : Str} {p apos pos : Pos} {e : Expr} {i : Nat} {f : AEnv → Res Bv} (he : Qf G k sc e f) (hx : (Qg sc)[i]? = some x) (hd : (x == ("__debug__" : Str)) = false) (hn : (x == ("__classdict__" : Str)) = false)
  (hu : ∀ env, backTo pos (starEach [e] env) = [(false, eval e env)]) (hline : (apos.endLine == pos.line) = true) : J4 G k sc (.Call (.Attribute (.Name x p) "pop" apos) [e] [] pos) (DT i f) := by
 intro cx ok fn ρ S s r Q E out
 obtain ⟨ds₀, h0, out⟩ := out.ob
 obtain ⟨t0, l0⟩ := ZX h0
 obtain ⟨a, vs, n, hv, ho, q, hsz⟩ := r.own hx t0
 refine wpAny_Call_method rfl (by rw [hu]; rfl) hline F.plainAttrs_list F.slot_list_pop F.type_list_pop ?_
 refine wpAny_Name (Zr (ok.mono (Nat.zero_le _)) hv hn rfl ?_) hd
 refine ⟨⟨_, ho, rfl⟩, fun b eb => (by cases eb; exact ⟨_, ho, rfl⟩), ?_⟩
 rw [hu]
 refine PySem.P.pop_at_list (he cx ok ρ S s r _ _ (out.step0 fun t ρ₁ out v h₁ t₁ S₁ r₁ j₁ x₁ v₁ => ?_))
 obtain ⟨j, hj, out⟩ := out.ob
 obtain ⟨ds, h1, out⟩ := out.ob
 obtain ⟨hb, out⟩ := out.when
 obtain ⟨d, hd, out⟩ := out.ob
 obtain ⟨u, rfl⟩ := (YD.rb j₁ r₁ (Gu hj)).int
 obtain ⟨e1, l1⟩ := ZX h1
 obtain ⟨a', vs', n', hv', ho', q', hsz'⟩ := r₁.own hx e1
 cases Var.inj hv' (v₁ rfl x _ hv)
 obtain ⟨y, hy, ry⟩ := q'.get hd
 refine ⟨vs', n', j, u, j.toNat, y, by rw [hsz', sizeLine_eq]; exact Nat.le_trans l1 (by decide), rfl, ho', by unfold Builtin.List.listFitsIndex; simp; lia, WM hb.1 (by lia), by simpa using hy, ?_⟩
 obtain ⟨m', hm'⟩ := ZV (fun xs => xs.eraseIdxIfInBounds j.toNat) ho'
 have hj' : j.toNat < vs'.size := by lia
 obtain ⟨r₂, x₂, v₂⟩ := r₁.mutate fn.bh hx e1 hv' (Heap.SameBut.update ..) hm' (ds' := ds.eraseIdx j.toNat) (by
  rw [Array.eraseIdxIfInBounds, dif_pos hj', Array.toList_eraseIdx]; exact q'.eraseIdx _)
 exact out _ _ t₁ S₁ r₂ (ry.ext x₂) (x₁.trans x₂) fun z => (v₁ z).trans v₂
theorem CQ {e : Expr} {pos : Pos} {f : AEnv → Res T} (h : J4 G k sc e f) (hs : ∀ env : Env, swapsWith e none pos.line env = pure false) : Jd G k sc (.Expr e pos) (Zb (Qd f)) := by
 intro cx ok fn ρ S s r Q E out
 refine wpAny_Expr_any ?_ (by unfold interactive; rw [ok.hsc, ok.hk]; rfl) (hs cx.env)
 refine h cx ok fn ρ S s r _ _ ?_
 unfold Zb Qd at out
 cases hf : f ρ with
 | stuck => rw [hf] at out; exact out
 | exc C ρ' => rw [hf] at out; exact out
 | ok t ρ' => rw [hf] at out; intro v h' tk S' rel j x vs; exact out .next h' tk S' rel trivial x fun q => by cases q
theorem Va {prog : Program} {w : World} {A : Around} {E : Value → Shared → Prop} {s : Shared} {l : Addr} {o : Obj} {items : Array Value} {n : Nat} {i : Int} {t : Tok} {v : Value} {Q : Unit → Shared → Prop} (ho : s.heap.get? l = some o) (hc : o.cls = .type "list") (hd : o.data = .seq items n)
  (h0 : 0 ≤ i) (hfit : i < 2 ^ 63) (hn : i < items.size) (hQ : Q () { s with heap := s.heap.update l (Obj.mapSeq (·.setIfInBounds i.toNat v)) }) : wpAny (model prog w) A (setItem (.ref l) (.int i t) v) Q E s := by
 have hT : s.TypeIs (.ref l) "list" := ⟨o, ho, hc⟩
 unfold setItem
 try with_reducible refine wpAny_holding ?_
 first | refine wpAny_bind (wpAny_pure ?_) | skip
 refine wpAny_bind (wpAny_sequenceKey hT (by decide) ?_)
 refine wpAny_bind (wpAny_callSpecial?_slot (name := Str.ofString "__setitem__") hT slot_list_setitem
  (wpAny_call_entry slot_list_setitem hT entry_list_setitem ?_ (args_list_setitem _ _ _)))
 show wpAny _ _ (Builtin.List.listSubscript? (.int i t) >>= _) _ _ s
 refine wpAny_bind (wpAny_listSubscript_int (fitsIndex_of h0 hfit) ?_)
 clear hfit
 obtain ⟨j, rfl⟩ := Int.eq_ofNat_of_zero_le h0
 have hj : j < items.size := by (simpa using hn)
 have hx' : items[j]? = some items[j] := Array.getElem?_eq_getElem hj
 show wpAny _ _ ((seqItemAt l j >>= fun r => pure (r.map (j, ·))) >>= _) _ _ s
 refine wpAny_bind (wpAny_bind (wpAny_seqItemAt ho hd (wpAny_pure ?_)))
 rw [hx']
 show wpAny _ _ (setSeqItemAt l j v >>= _) _ _ s
 refine wpAny_bind (wpAny_setSeqItemAt ho hd ?_)
 first
  | exact wpAny_bind (wpAny_pure (wpAny_pure ⟨.none, rfl, wpAny_pure hQ⟩))
  | exact wpAny_pure ⟨.none, rfl, wpAny_pure hQ⟩
noncomputable def YA (i : Nat) (f : AEnv → Res Bv) (g : AEnv → Res T) : AEnv → Res Fl := fun ρ => (g ρ).bind fun t ρ₁ => ob (X1 ρ₁ i) fun _ => (f ρ₁).bind fun b ρ₂ => ob ((b.get ρ₂).bind asI) fun j => ob (X1 ρ₂ i) fun ds => if 0 ≤ j ∧ j < ds.length then .ok .next (ρ₂.set i (some (.ow true (.list (ds.set j.toNat t.val))))) else .stuck
theorem Bd {x : Str} {p ip pos : Pos} {ix value : Expr} {i : Nat} {f : AEnv → Res Bv} {g : AEnv → Res T} (hf : Qf G k sc ix f) (hg : Sim G k sc value g) (hx : (Qg sc)[i]? = some x) (hd : (x == ("__debug__" : Str)) = false) (hn : (x == ("__classdict__" : Str)) = false)
  (hs : ∀ env : Env, env.scope = sc → swapsWithSole [.Subscript (.Name x p) ix ip] value pos.line env = pure false) (hw : ∀ env : Env, swappedStores [.Subscript (.Name x p) ix ip] value env = pure none) :
  Jd G k sc (.Assign [.Subscript (.Name x p) ix ip] value pos) (YA i f g) := by
 intro cx ok fn ρ S s r Q E out
 rw [exec_Assign]
 refine wpAny_bind (wpAny_standAt ?_)
 rw [hs cx.env ok.hsc]
 refine wpAny_bind (wpAny_pure ?_)
 rw [if_neg (by decide)]
 refine wpAny_bind ((hg cx ok ρ S s r).shared _ _ ?_)
 refine out.step0S fun t ρ₁ out v h₁ t₁ S₁ r₁ j₁ x₁ v₁ => ?_
 rw [hw]
 refine wpAny_bind (wpAny_pure ?_)
 show wpAny _ _ (do assignAll v [assign (.Subscript (.Name x p) ix ip) cx.env]; pure .next) Q E _
 refine wpAny_bind ?_
 show wpAny _ _ (assign (.Subscript (.Name x p) ix ip) cx.env v) _ E _
 rw [arm_assign_Subscript]
 obtain ⟨ds₀, h0, out⟩ := out.ob
 obtain ⟨t0, l0⟩ := ZX h0
 obtain ⟨a, vs, n, hv, ho, q, hsz⟩ := r₁.own hx t0
 refine wpAny_bind (wpAny_holding (wpAny_Name (Zr (ok.mono (Nat.zero_le _)) hv hn rfl ?_) hd))
 refine wpAny_bind (wpAny_holding (hf cx ok ρ₁ S₁ { s with heap := h₁, toks := t₁ } r₁ _ _ (out.step x₁ fun b ρ₂ out iv h₂ t₂ S₂ r₂ j₂ x₂ v₂ => ?_)))
 refine wpAny_bind (wpAny_standAt ?_)
 obtain ⟨j, hj, out⟩ := out.ob
 obtain ⟨ds, h1, out⟩ := out.ob
 obtain ⟨hb, out⟩ := out.when
 obtain ⟨u, rfl⟩ := (YD.rb j₂ r₂ (Gu hj)).int
 obtain ⟨e1, l1⟩ := ZX h1
 obtain ⟨a', vs', n', hv', ho', q', hsz'⟩ := r₂.own hx e1
 cases Var.inj hv' (v₂ rfl x _ hv)
 refine wpAny_bind (wpAny_holding (Va ho' rfl rfl hb.1 (by lia) (by lia) ?_))
 obtain ⟨m', hm'⟩ := ZV (fun xs => xs.setIfInBounds j.toNat v) ho'
 obtain ⟨r₃, x₃, v₃⟩ := r₂.mutate fn.bh hx e1 hv' (Heap.SameBut.update ..) hm' (ds' := ds.set j.toNat t.val) (by
  rw [Array.toList_setIfInBounds]; exact q'.set (j₁.ext x₂) _)
 exact wpAny_release (wpAny_pure (out .next _ t₂ S₂ r₃ trivial ((x₁.trans x₂).trans x₃) fun z => by cases z))
end
end Mine
end

section
set_option Elab.async false
set_option maxRecDepth 100000
namespace Mine
open PySem PyProof.Rows
theorem Vk : entryFor table "proto.unchain" = some Builtin.«proto.unchain» := entryFor_of_tree (by kernel_rfl)
noncomputable def HOk (A : Around) (h : Heap) : Prop := ∀ v, A.handled = some v → ∃ a o vs, v = .ref a ∧ h.get? a = some o ∧ o.data = .fields vs ∧ vs[2]? = some .none
theorem HOk.keeps {A : Around} {h h' : Heap} (q : HOk A h) (k : ∀ b o vs, h.get? b = some o → o.data = .fields vs → vs[2]? = some .none → ∃ o' vs', h'.get? b = some o' ∧ o'.data = .fields vs' ∧ vs'[2]? = some .none) : HOk A h' := fun v e => by
 obtain ⟨a, o, vs, rfl, h1, h2, h3⟩ := q v e
 obtain ⟨o', vs', k1, k2, k3⟩ := k a o vs h1 h2 h3
 exact ⟨a, o', vs', rfl, k1, k2, k3⟩
theorem Rel.hOk {G : Gd} {cx : Cx} {sc : Scope} {ρ : AEnv} {S : Addr → Prop} {h : Heap} (r : Rel G cx sc ρ S h) : HOk cx.A h := fun v e => by
 obtain ⟨C, q⟩ := r.hok v e
 cases q with
 | exc h1 h2 h3 h4 h5 => exact ⟨_, _, _, rfl, h1, h4, h5⟩
section
variable {prog : Program} {w : World} {A : Around} {E : Value → Shared → Prop} {s : Shared}
theorem V5 {α : Type} {Q : α → Shared → Prop} (hh : HOk A s.heap)
  (hE : ∀ h' e, (∀ b o, s.heap.get? b = some o → h'.get? b = some o) → (∃ o, h'.get? e = some o ∧ o.cls = .type "StopIteration") → E (.ref e) { s with heap := h' }) :
  wpAny (model prog w) A (newExc (.type "StopIteration") [] >>= fun e => (raiseNew e : Sem α)) Q E s := by
 refine wpAny_bind ?_
 simp only [newExc, newTuple]
 refine wpAny_bind (wpAny_newObj_type ?_ (by size_fits))
 refine wpAny_bind (m := firstArgMember _ _) (wpAny_of_eq (a := Value.none) (by first | rfl | (simp only [firstArgMember]; rfl)) ?_)
 refine wpAny_newObj_type ?_ (by size_fits)
 simp only [raiseNew]
 refine wpAny_bind (wpAny_handled ?_)
 generalize ho1 : ({ cls := Value.type "tuple", data := Data.seq ([] : List Value).toArray } : Obj) = o1
 generalize ho2 : ({ cls := Value.type "StopIteration", data := _ } : Obj) = o2
 have keep : ∀ b o, s.heap.get? b = some o → ((s.heap.push o1).push o2).get? b = some o := fun b o e => Heap.get?_push_of_some _ (Heap.get?_push_of_some _ e)
 have hnew : ((s.heap.push o1).push o2).get? (s.heap.push o1).objs.size = some o2 := Heap.get?_push_size _ (by subst ho2; rfl)
 have hcls : o2.cls = .type "StopIteration" := by subst ho2; rfl
 cases hA : A.handled with
 | none => exact wpAny_bind (wpAny_pure (wpAny_throw (hE _ _ keep ⟨_, hnew, hcls⟩)))
 | some v =>
  obtain ⟨a, o, vs, rfl, h1, h2, h3⟩ := hh v hA
  have hne : (Value.ref a != Value.ref (s.heap.push o1).objs.size) = true := by
   have := Heap.lt_size h1
   rw [bne_iff_ne]
   intro q
   rw [Value.ref.injEq, Heap.size_push] at q
   exact absurd this (by rw [q]; exact Nat.not_lt.mpr (Nat.le_succ _))
  simp only [hne, if_true]
  have hd2 : ∃ ws, o2.data = .fields ws ∧ 2 < ws.size := by subst ho2; exact ⟨_, rfl, by rw [Array.size_append]; simp; exact Nat.le_add_left _ _⟩
  obtain ⟨ws, hws, hsz⟩ := hd2
  refine wpAny_bind (wpAny_holding (wpAny_runValue (codeAny_builtin Vk ?_)))
  show wpAny _ _ (do
   let context ← field (.ref a) 2
   if context == .none then return ← ret .none
   if context == .ref (s.heap.push o1).objs.size then
    rule "raise.context-cycle-cut"
    setField (.ref a) 2 .none
    return ← ret .none
   if context == .ref a then rule "raise.context-old-cycle"; return ← ret .none
   let slow ← (if false then field (.ref a) 2 else pure (.ref a))
   again (.builtin "proto.unchain" ⟨[.ref (s.heap.push o1).objs.size, context, slow, .bool !false], []⟩)) _ _ _
  refine wpAny_bind (wpAny_field (keep a o h1) h2 h3 ?_)
  rw [if_pos (by rfl)]
  refine wpAny_bind (wpAny_pure (wpAny_pure ?_))
  refine wpAny_bind ?_
  show wpAny _ _ (setField (.ref (s.heap.push o1).objs.size) 2 (.ref a)) _ _ _
  refine wpAny_setField hnew hws hsz (wpAny_throw (hE _ _ (fun b o e => ?_) ⟨_, Heap.get?_update_self _ hnew (Obj.isFreed_of_fields (Obj.data_mapFields hws _)), (Obj.cls_mapFields ..).trans hcls⟩))
  refine (Heap.get?_update_other _ _ ?_).trans (keep b o e)
  have := Heap.lt_size e
  rw [Heap.size_push]
  exact fun q => absurd this (by rw [← q]; exact Nat.not_lt.mpr (Nat.le_succ _))
noncomputable def KB (wr : List Addr) (h h' : Heap) : Prop := (∀ b o, b ∉ wr → h.get? b = some o → h'.get? b = some o) ∧ ∀ b ∈ wr, ∃ o, h'.get? b = some o
theorem JO {it l : Addr} {i : Nat} {o ol : Obj} {items : Array Value} {nl : Nat} {P : Fin → Shared → Prop} (hh : HOk A s.heap) (ho : s.heap.get? it = some o) (hd : o.data = .fields #[.ref l, .int i 0]) (hol : s.heap.get? l = some ol) (hdl : ol.data = .seq items nl) (hx : items[i]? = none) (hni : ∀ v, A.handled = some v → v ≠ .ref it)
  (hE : ∀ h' e, KB [it] s.heap h' → (∃ o, h'.get? e = some o ∧ o.cls = .type "StopIteration") → E (.ref e) { s with heap := h' }) :
  wpAny (model prog w) A (Builtin.«list_iterator.__next__» ⟨[.ref it], []⟩) P E s := by
 show wpAny _ _ (field (.ref it) 0 >>= _) _ _ s
 refine wpAny_bind (wpAny_field ho hd (x := .ref l) rfl ?_)
 show wpAny _ _ (if (Value.ref l == Value.none) = true then _ else _) _ _ s
 rw [if_neg (show ¬ ((Value.ref l == Value.none) = true) from Bool.false_ne_true)]
 show wpAny _ _ (field (.ref it) 1 >>= _) _ _ s
 refine wpAny_bind (wpAny_field ho hd (x := .int i 0) rfl ?_)
 show wpAny _ _ (seqItems? (.ref l) >>= _) _ _ s
 refine wpAny_bind (wpAny_seqItems hol hdl ?_)
 simp only [Int.toNat_natCast, hx]
 refine wpAny_bind (wpAny_rule (wpAny_bind (wpAny_setField ho hd (by simp) ?_)))
 have self := Heap.get?_update_self (Obj.mapFields (·.setIfInBounds 0 Value.none)) ho (Obj.isFreed_of_fields (Obj.data_mapFields hd _))
 have oth : ∀ b o, b ≠ it → s.heap.get? b = some o → (s.heap.update it (Obj.mapFields (·.setIfInBounds 0 Value.none))).get? b = some o := fun b o hb e => (Heap.get?_update_other _ _ (Ne.symm hb)).trans e
 show wpAny _ _ (newExc (.type "StopIteration") [] >>= fun e => raiseNew e) _ _ _
 refine V5 (s := { s with heap := s.heap.update it (Obj.mapFields (·.setIfInBounds 0 Value.none)) }) (fun v e => ?_) fun h' e k he => hE h' e ⟨fun b o hb eb => k b o (oth b o (by simpa using hb) eb), fun b hb => by cases List.mem_singleton.mp hb; exact ⟨_, k _ _ self⟩⟩ he
 obtain ⟨a, o', vs, rfl, h1, h2, h3⟩ := hh v e
 exact ⟨a, o', vs, rfl, oth a o' (fun q => hni _ e (by rw [q])) h1, h2, h3⟩
theorem W0 {it l : Addr} {i : Nat} {o ol : Obj} {items : Array Value} {nl : Nat} {Q : Option Value → Shared → Prop} 
  (hh : HOk A s.heap) (ho : s.heap.get? it = some o) (hc : o.cls = .type "list_iterator") (hd : o.data = .fields #[.ref l, .int i 0]) (hol : s.heap.get? l = some ol) (hdl : ol.data = .seq items nl) (hx : items[i]? = none) (hni : ∀ v, A.handled = some v → v ≠ .ref it)
  (hQ : ∀ h', KB [it] s.heap h' → Q none { s with heap := h' }) : wpAny (model prog w) A (pyNext (.ref it)) Q E s := by
 have hT : s.TypeIs (.ref it) "list_iterator" := ⟨o, ho, hc⟩
 unfold pyNext
 refine wpAny_bind (wpAny_attempt (wpAny_callSpecial?_slot (name := Str.ofString "__next__") hT slot_listiter_next (wpAny_call_entry slot_listiter_next hT entry_listiter_next ?_ (args_listiter_next _))))
 refine JO (A := A.in1) hh ho hd hol hdl hx hni fun h' e k he => ?_
 obtain ⟨oe, he, hce⟩ := he
 refine wpAny_bind (wpAny_isInstance (T := "StopIteration") (b := true) ⟨_, he, hce⟩ isSubtype_stop ?_)
 exact wpAny_pure (hQ _ k)
theorem Jo {it l : Addr} {i : Nat} {o ol : Obj} {items : Array Value} {nl : Nat} {P : Fin → Shared → Prop} (hh : HOk A s.heap) (ho : s.heap.get? it = some o) (hd : o.data = .fields #[.ref l, .int i 0]) (hol : s.heap.get? l = some ol) (hdl : ol.data = .seq items nl) (hx : items[i]? = none) (hni : ∀ v, A.handled = some v → v ≠ .ref it)
  (hE : ∀ h' e, KB [it] s.heap h' → (∃ o, h'.get? e = some o ∧ o.cls = .type "StopIteration") → E (.ref e) { s with heap := h' }) :
  wpAny (model prog w) A (Builtin.«tuple_iterator.__next__» ⟨[.ref it], []⟩) P E s := by
 show wpAny _ _ (field (.ref it) 0 >>= _) _ _ s
 refine wpAny_bind (wpAny_field ho hd (x := .ref l) rfl ?_)
 show wpAny _ _ (if (Value.ref l == Value.none) = true then _ else _) _ _ s
 rw [if_neg (show ¬ ((Value.ref l == Value.none) = true) from Bool.false_ne_true)]
 show wpAny _ _ (field (.ref it) 1 >>= _) _ _ s
 refine wpAny_bind (wpAny_field ho hd (x := .int i 0) rfl ?_)
 show wpAny _ _ (seqItems? (.ref l) >>= _) _ _ s
 refine wpAny_bind (wpAny_seqItems hol hdl ?_)
 simp only [Int.toNat_natCast, hx]
 refine wpAny_bind (wpAny_rule (wpAny_bind (wpAny_setField ho hd (by simp) ?_)))
 have self := Heap.get?_update_self (Obj.mapFields (·.setIfInBounds 0 Value.none)) ho (Obj.isFreed_of_fields (Obj.data_mapFields hd _))
 have oth : ∀ b o, b ≠ it → s.heap.get? b = some o → (s.heap.update it (Obj.mapFields (·.setIfInBounds 0 Value.none))).get? b = some o := fun b o hb e => (Heap.get?_update_other _ _ (Ne.symm hb)).trans e
 show wpAny _ _ (newExc (.type "StopIteration") [] >>= fun e => raiseNew e) _ _ _
 refine V5 (s := { s with heap := s.heap.update it (Obj.mapFields (·.setIfInBounds 0 Value.none)) }) (fun v e => ?_) fun h' e k he => hE h' e ⟨fun b o hb eb => k b o (oth b o (by simpa using hb) eb), fun b hb => by cases List.mem_singleton.mp hb; exact ⟨_, k _ _ self⟩⟩ he
 obtain ⟨a, o', vs, rfl, h1, h2, h3⟩ := hh v e
 exact ⟨a, o', vs, rfl, oth a o' (fun q => hni _ e (by rw [q])) h1, h2, h3⟩
theorem JC {it l : Addr} {i : Nat} {o ol : Obj} {items : Array Value} {nl : Nat} {Q : Option Value → Shared → Prop} 
  (hh : HOk A s.heap) (ho : s.heap.get? it = some o) (hc : o.cls = .type "tuple_iterator") (hd : o.data = .fields #[.ref l, .int i 0]) (hol : s.heap.get? l = some ol) (hdl : ol.data = .seq items nl) (hx : items[i]? = none) (hni : ∀ v, A.handled = some v → v ≠ .ref it)
  (hQ : ∀ h', KB [it] s.heap h' → Q none { s with heap := h' }) : wpAny (model prog w) A (pyNext (.ref it)) Q E s := by
 have hT : s.TypeIs (.ref it) "tuple_iterator" := ⟨o, ho, hc⟩
 unfold pyNext
 refine wpAny_bind (wpAny_attempt (wpAny_callSpecial?_slot (name := Str.ofString "__next__") hT slot_tupleiter_next (wpAny_call_entry slot_tupleiter_next hT entry_tupleiter_next ?_ (args_tupleiter_next _))))
 refine Jo (A := A.in1) hh ho hd hol hdl hx hni fun h' e k he => ?_
 obtain ⟨oe, he, hce⟩ := he
 refine wpAny_bind (wpAny_isInstance (T := "StopIteration") (b := true) ⟨_, he, hce⟩ isSubtype_stop ?_)
 exact wpAny_pure (hQ _ k)
theorem OP {it : Addr} {x left step : Int} {Q : Option Value → Shared → Prop} (hh : HOk A s.heap) (hit : IsRangeIter s.heap it x left step) (hleft : left ≤ 0)
  (hQ : ∀ h', KB [it] s.heap h' → Q none { s with heap := h' }) : wpAny (model prog w) A (pyNext (.ref it)) Q E s := by
 have hT : s.TypeIs (.ref it) "range_iterator" := ⟨_, hit, rfl⟩
 unfold pyNext
 refine wpAny_bind (wpAny_attempt (wpAny_callSpecial?_slot (name := Str.ofString "__next__") hT F.slot_range_iterator_next
  (wpAny_call_entry F.slot_range_iterator_next hT F.entry_range_iterator_next ?_ (F.args_range_iterator_next_1 _))))
 show wpAny _ _ (field (.ref it) 0 >>= _) _ _ s
 refine wpAny_bind (wpAny_field hit rfl (x := rawInt x) rfl ?_)
 show wpAny _ _ (field (.ref it) 1 >>= _) _ _ s
 refine wpAny_bind (wpAny_field hit rfl (x := rawInt left) rfl ?_)
 show wpAny _ _ (field (.ref it) 2 >>= _) _ _ s
 refine wpAny_bind (wpAny_field hit rfl (x := rawInt step) rfl ?_)
 show wpAny _ _ (if left ≤ 0 then _ else _) _ _ s
 rw [if_pos hleft]
 refine wpAny_bind (wpAny_rule ?_)
 refine wpAny_bind ?_
 show wpAny _ _ (newExc (.type "StopIteration") [] >>= fun e => raiseNew e) _ _ _
 refine V5 (A := A.in1) hh fun h' e k he => ?_
 obtain ⟨oe, he, hce⟩ := he
 refine wpAny_bind (wpAny_isInstance (T := "StopIteration") (b := true) ⟨_, he, hce⟩ isSubtype_stop ?_)
 exact wpAny_pure (hQ _ ⟨fun b o _ e => k b o e, fun b hb => by cases List.mem_singleton.mp hb; exact ⟨_, k _ _ hit⟩⟩)
end
noncomputable def ZD (o : Obj) : Prop := ∃ T vs, o.cls = .type T ∧ T ≠ "tuple" ∧ T ≠ "list" ∧ T ≠ "range" ∧ o.data = .fields vs
section
variable {G : Gd} {cx : Cx} {sc : Scope} {ρ : AEnv} {S : Addr → Prop} {h h' : Heap} {wr : List Addr}
theorem KB.carry (sh : ∀ b ∈ wr, ∃ o, h.get? b = some o ∧ ZD o) (k : KB wr h h') : Carry S h S h' where
 tup := fun e hc hd => k.1 _ _ (fun m => by obtain ⟨o, e', T, vs, h1, h2, h3, h4, h5⟩ := sh _ m; rw [e] at e'; cases e'; rw [hc] at h1; cases h1; exact h2 rfl) e
 list := fun hs e hc hd => ⟨hs, k.1 _ _ (fun m => by obtain ⟨o, e', T, vs, h1, h2, h3, h4, h5⟩ := sh _ m; rw [e] at e'; cases e'; rw [hc] at h1; cases h1; exact h3 rfl) e⟩
 range := fun e => k.1 _ _ (fun m => by obtain ⟨o, e', T, vs, h1, h2, h3, h4, h5⟩ := sh _ m; unfold IsRange at e; rw [e] at e'; cases e'; cases h1; exact h4 rfl) e
 exc := fun e hc hn hd r => .exc (k.1 _ _ (fun m => by obtain ⟨o, e', T, vs, h1, h2, h3, h4, h5⟩ := sh _ m; rw [e] at e'; cases e'; rw [hc] at h1; cases h1) e) hc hn hd r
 dom := fun a o e' => by
  by_cases hb : a ∈ wr
  ·exact k.2 a hb
  ·exact ⟨o, k.1 a o hb e'⟩
 obj := fun s1 s2 e n => ⟨s1, s2, k.1 _ _ (fun m => by obtain ⟨o, e', T, vs, h1, h2, h3, h4, h5⟩ := sh _ m; rw [e] at e'; cases e'; cases h1) e, by
  obtain ⟨o, es, ep, ho, hd, q⟩ := n
  exact ⟨o, es, ep, k.1 _ _ (fun m => by obtain ⟨o', e', T, vs, _, _, _, _, h5⟩ := sh _ m; rw [ho] at e'; cases e'; rw [hd] at h5; cases h5) ho, hd, q⟩⟩
theorem RV.aside (sh : ∀ b ∈ wr, ∃ o, h.get? b = some o ∧ ZD o) (k : KB wr h h') {v : Value} {d : D} (q : RV S h v d) : RV S h' v d := q.map (k.carry sh)
theorem RVs.aside (sh : ∀ b ∈ wr, ∃ o, h.get? b = some o ∧ ZD o) (k : KB wr h h') {vs : List Value} {ds : List D} (q : RVs S h vs ds) : RVs S h' vs ds := q.map (k.carry sh)
theorem KB.dom (k : KB wr h h') {b : Addr} {o : Obj} (e : h.get? b = some o) : ∃ o', h'.get? b = some o' := by
 by_cases hb : b ∈ wr
 ·exact k.2 b hb
 ·exact ⟨o, k.1 b o hb e⟩
theorem Rel.aside (r : Rel G cx sc ρ S h) (sh : ∀ b ∈ wr, ∃ o, h.get? b = some o ∧ ZD o) (new : ∀ b ∈ wr, cx.h₀.get? b = none ∧ G.B.get? b = none) (k : KB wr h h') : Rel G cx sc ρ S h' ∧ QA cx.env h h' := by
 have nw : ∀ (a : Addr) (o : Obj), h.get? a = some o → (∀ vs, o.data ≠ .fields vs) → a ∉ wr := fun a o e hd m => by
  obtain ⟨o', e', T, vs, _, _, _, _, q⟩ := sh a m
  rw [e] at e'; cases e'; exact hd vs q
 have nsame : ∀ m, h.Ns cx.env.locals m → h'.Ns cx.env.locals m := fun m n => by
  obtain ⟨o, es, ep, ho, hd, q⟩ := n
  exact ⟨o, es, ep, k.1 _ _ (nw _ _ ho (by rw [hd]; intro vs q; cases q)) ho, hd, q⟩
 have csame : ∀ c w, h.IsCell c w → h'.IsCell c w := fun c w n => by
  obtain ⟨o, ho, hd⟩ := n
  exact ⟨o, k.1 _ _ (nw _ _ ho (by rw [hd]; intro vs q; cases q)) ho, hd⟩
 have hb : QA cx.env h h' := fun y w q => by
  rcases q with ⟨a, m₁, b, c⟩ | ⟨a, c, b, d⟩
  ·exact .inl ⟨a, m₁, nsame m₁ b, c⟩
  ·exact .inr ⟨a, c, b, csame c _ d⟩
 have hf : ∀ y w, Var cx.env h' y w → Var cx.env h y w := fun y w q => by
  rcases q with ⟨a, m₁, b, c⟩ | ⟨a, c, b, d⟩
  ·obtain ⟨m₀, n₀⟩ := r.ns
   exact .inl ⟨a, m₀, n₀, by rw [(nsame m₀ n₀).agree b y]; exact c⟩
  ·obtain ⟨w₀, n₀⟩ := r.cells y c b
   exact .inr ⟨a, c, b, by rw [IsCell.inj d (csame c _ n₀)]; exact n₀⟩
 refine ⟨⟨fun b o q => k.1 b o (fun m => by rw [(new b m).2] at q; cases q) (r.base b o q), fun b o q => ?_, fun env he => ?_, let ⟨m, n⟩ := r.ns; ⟨m, nsame m n⟩, fun y c q => let ⟨w, n⟩ := r.cells y c q; ⟨w, csame c w n⟩, fun b q => let ⟨o, eo⟩ := r.sdom b q; k.dom eo, r.sok, r.sloc, r.scell, fun y b hdy q => let ⟨o, eo⟩ := r.live y b hdy (hf y _ q); k.dom eo, r.clean, fun v q => let ⟨C, e⟩ := r.hok v q; ⟨C, e.aside sh k⟩, fun j y u hy hu => ?_, fun j l y z m m' d d' u hy hz hj hl a b => r.inj j l y z m m' d d' u hy hz hj hl (hf y _ a) (hf z _ b), r.dok.back hf⟩, hb⟩
 ·obtain ⟨sl, q₁, k₁⟩ := r.keep b o q
  exact ⟨sl, k.1 b _ (fun m => by rw [(new b m).1] at q; cases q) q₁, k₁⟩
 ·obtain ⟨p, L, o, b, c, d, es, n, q⟩ := r.ff env he
  exact ⟨p, L, o, b, c, k.1 L o (nw _ _ d (by rw [q]; intro vs q; cases q)) d, es, n, q⟩
 ·obtain ⟨w, hw', tw⟩ := r.vars j y u hy hu
  refine ⟨w, hb y w hw', ?_⟩
  cases u with
  | sh d => exact RV.aside sh k tw
  | ow m d =>
   obtain ⟨b, rfl, n1, ow, n2⟩ := tw
   refine ⟨b, rfl, n1, ?_, n2⟩
   exact ow.map (k.carry sh) fun o e hd => ⟨o.slots, k.1 b _ (nw _ _ e (by rcases hd with ⟨_, _, hd⟩ | ⟨_, _, hd⟩ <;> (rw [hd]; intro vs q; cases q))) e, fun _ => rfl⟩
theorem Ext.aside {S₀ : Addr → Prop} {h₀ : Heap} (x : Ext S₀ h₀ S h) (new : ∀ b ∈ wr, h₀.get? b = Option.none) (k : KB wr h h') : Ext S₀ h₀ S h' :=
 ⟨x.sub, fun b o e q => by
  obtain ⟨sl, e₁, k₁⟩ := x.keep b o e q
  exact ⟨sl, k.1 b _ (fun m => by rw [new b m] at e; cases e) e₁, k₁⟩, fun b o e => by
  obtain ⟨o', e'⟩ := x.dom b o e
  exact k.dom e'⟩
end
structure ItK (G : Gd) (A : Around) (tg : Expr) (I : Addr) (wr : List Addr) (St : Nat → (Addr → Prop) → Heap → Prop) (ds : List D) : Prop where
 shape : ∀ i S h, St i S h → ∀ b ∈ wr, ∃ o, h.get? b = some o ∧ ZD o
 ext : ∀ i S h S' h', St i S h → Ext S h S' h' → St i S' h'
 item : ∀ i S (s : Shared) d (Q : Value → Shared → Prop) (E E' : Value → Shared → Prop), ds[i]? = some d → St i S s.heap →
  (∀ v h' tk, RV S h' v d → St (i + 1) S h' → KB wr s.heap h' → Q v { s with heap := h', toks := tk }) →
  wpAny G.M A (pyNext (.ref I)) (fun r s₁ => ∃ v, r = some v ∧ wpAny G.M A (letOwnedTupleGo tg (.ref I) v) (fun _ s₂ => Q v s₂) E' s₁) E s
 done : ∀ S (s : Shared) (Q : Option Value → Shared → Prop) (E : Value → Shared → Prop), St ds.length S s.heap → HOk A s.heap → (∀ v, A.handled = some v → ∀ b ∈ wr, v ≠ .ref b) →
  (∀ h' tk, KB wr s.heap h' → Q none { s with heap := h', toks := tk }) → wpAny G.M A (pyNext (.ref I)) Q E s
 self : ∀ i S (s : Shared) (Q : Value → Shared → Prop) (E : Value → Shared → Prop), St i S s.heap → Q (.ref I) s → wpAny G.M A (pyIter (.ref I)) Q E s
noncomputable def Dq (G : Gd) (cx : Cx) (sc : Scope) (tg : Expr) (S : Addr → Prop) (s : Shared) (Q : Value → Shared → Prop) (E : Value → Shared → Prop) : Res (List D) → Prop
 | .ok ds ρ' => ∀ (I : Addr) (wr : List Addr) (St : Nat → (Addr → Prop) → Heap → Prop) (S' : Addr → Prop) (h' : Heap) (tk : Nat), Rel G cx sc ρ' S' h' → ItK G cx.A tg I wr St ds → St 0 S' h' → (∀ b ∈ wr, s.heap.get? b = none) → Ext S s.heap S' h' → QA cx.env s.heap h' → Q (.ref I) { s with heap := h', toks := tk }
 | .exc C ρ' => ∀ e h' tk S', Rel G cx sc ρ' S' h' → Fly s.heap h' e C → Ext S s.heap S' h' → E (.ref e) { s with heap := h', toks := tk }
 | .stuck => False
noncomputable def Vo (G : Gd) (k : Nat) (sc : Scope) (tg e : Expr) (f : AEnv → Res (List D)) : Prop :=
 ∀ cx, CxOk G cx sc k → ∀ ρ S s, Rel G cx sc ρ S s.heap → ∀ Q E, Dq G cx sc tg S s Q E (f ρ) → wpAny G.M cx.A (eval e cx.env) (fun xv s₁ => wpAny G.M cx.A (pyIter xv) Q E s₁) E s
theorem Dq.stepS {G : Gd} {cx : Cx} {sc : Scope} {tg : Expr} {same₁ : Bool} {S S₁ : Addr → Prop} {s : Shared} {h₁ : Heap} {t₁ : Nat} {Q Q₁ : Value → Shared → Prop} {E : Value → Shared → Prop} {r : Res T} {g : T → AEnv → Res (List D)} (out : Dq G cx sc tg S s Q E (r.bind g)) (x : Ext S s.heap S₁ h₁)
  (H : ∀ b ρ, Dq G cx sc tg S s Q E (g b ρ) → ∀ a h' tk S', Rel G cx sc ρ S' h' → RV S' h' a b.val → Ext S₁ h₁ S' h' → (same₁ = true → QA cx.env h₁ h') → Q₁ a { s with heap := h', toks := tk }) :
  Out G cx sc same₁ S₁ { s with heap := h₁, toks := t₁ } (fun S' h' v d => RV S' h' v d) Q₁ E (r.bind fun t ρ => .ok t.val ρ) := by
 cases r with
 | stuck => exact out
 | exc C ρ => exact fun e h' tk S' r' f' x' => out e h' tk S' r' (f'.back x) (x.trans x')
 | ok b ρ => exact H b ρ out
theorem KB.of_sameBut {a : Addr} {h h' : Heap} (k : Heap.SameBut a h h') (e : ∃ o, h'.get? a = some o) : KB [a] h h' := ⟨fun b o hb eb => (k.2 b (by simpa using hb)).trans eb, fun b hb => by rw [List.mem_singleton.mp hb]; exact e⟩
set_option tactic.hygienic true in
theorem Ws {prog : Program} {w : World} {A : Around} {E : Value → Shared → Prop} {s : Shared} {tg : Expr} {I : Addr} {o : Obj} {T : String} {vs : Array Value} {v : Value} {Q : Unit → Shared → Prop} (ho : s.heap.get? I = some o) (hc : o.cls = .type T) (hd : o.data = .fields vs)
  (hT : ["enumerate", "zip", "dict_itemiterator", "dict_reverseitemiterator", "odict_iterator", "itertools.zip_longest", "itertools.pairwise"].contains T = false) (h : Q () s) : wpAny (model prog w) A (letOwnedTupleGo tg (.ref I) v) Q E s := by
 obtain ⟨c, d, dt, sl⟩ := o
 cases hc
 cases hd
 have hf : ∀ a, (["enumerate", "zip", "dict_itemiterator", "dict_reverseitemiterator", "odict_iterator", "itertools.zip_longest", "itertools.pairwise"].contains T && vs[0]? == some (rawInt a)) = false := fun a => by rw [hT]; rfl
 cases tg <;> first | exact wpAny_pure h | skip
 all_goals
  cases v <;> first | exact wpAny_pure h | skip
  rename_i a
  refine wpAny_bind (m := load I) (wpAny_load ho ?_)
  show wpAny _ _ (if (["enumerate", "zip", "dict_itemiterator", "dict_reverseitemiterator", "odict_iterator", "itertools.zip_longest", "itertools.pairwise"].contains T && vs[0]? == some (rawInt a)) = true then _ else _) Q E s
  rw [if_neg (by rw [hf]; decide)]
  exact wpAny_pure h
section
variable {G : Gd} {A : Around} {tg : Expr}
noncomputable def Wj (T : String) (It : String) (I l : Addr) (ds : List D) (i : Nat) (S : Addr → Prop) (h : Heap) : Prop :=
 (∃ o, h.get? I = some o ∧ o.cls = .type It ∧ o.data = .fields #[.ref l, .int i 0]) ∧ ∃ o vs n, h.get? l = some o ∧ o.cls = .type T ∧ o.data = .seq vs n ∧ RVs S h vs.toList ds ∧ (T = "list" → S l)
theorem Wj.ext {T It : String} {I l : Addr} {ds : List D} (hT : T = "list" ∨ T = "tuple") : ∀ i S h S' h', Wj T It I l ds i S h → Ext S h S' h' → Wj T It I l ds i S' h' := by
 rintro i S h S' h' ⟨⟨o, a1, a2, a3⟩, ol, vs, n, b1, b2, b3, b4, b5⟩ x
 refine ⟨⟨o, x.exact a1 (.inr (.inr ⟨_, a3⟩)) (.fields a3), a2, a3⟩, ol, vs, n, x.exact b1 ?_ (.seq b3), b2, b3, b4.ext x, fun q => x.sub _ (b5 q)⟩
 rcases hT with rfl | rfl
 ·exact .inl (b5 rfl)
 ·exact .inr (.inl ⟨b2, _, _, b3⟩)
theorem EQ {I l : Addr} (hne : l ≠ I) (ds : List D) : ItK G A tg I [I] (Wj "list" "list_iterator" I l ds) ds where
 shape := fun i S h st b hb => by
  obtain ⟨⟨o, a1, a2, a3⟩, _⟩ := st
  exact ⟨o, by rw [List.mem_singleton.mp hb]; exact a1, _, _, a2, by decide, by decide, by decide, a3⟩
 ext := Wj.ext (.inl rfl)
 item := fun i S s d Q E E' hd st hQ => by
  obtain ⟨⟨o, a1, a2, a3⟩, ol, vs, n, b1, b2, b3, b4, b5⟩ := st
  obtain ⟨v, hv, rv⟩ := b4.get hd
  refine wpAny_pyNext_list_item ⟨o, a1, a2, a3⟩ ⟨ol, b1, b2, n, b3⟩ (by simpa using hv) fun h' it' k' => ⟨v, rfl, ?_⟩
  have it0 := it'
  obtain ⟨o', c1, c2, c3⟩ := it0
  have kb := KB.of_sameBut k' ⟨o', c1⟩
  have sh : ∀ b ∈ [I], ∃ o, s.heap.get? b = some o ∧ ZD o := fun b hb => ⟨o, by rw [List.mem_singleton.mp hb]; exact a1, _, _, a2, by decide, by decide, by decide, a3⟩
  exact Ws (s := { s with heap := h' }) c1 c2 c3 (by decide) (hQ v h' s.toks (rv.aside sh kb) ⟨⟨o', c1, c2, c3⟩, ol, vs, n, (k'.2 l hne).trans b1, b2, b3, b4.aside sh kb, b5⟩ kb)
 done := fun S s Q E st hh hni hQ => by
  obtain ⟨⟨o, a1, a2, a3⟩, ol, vs, n, b1, b2, b3, b4, b5⟩ := st
  exact W0 hh a1 a2 a3 b1 b3 (by have := b4.length; simp at this; simp [this]) (fun v e => hni v e I (.head _)) fun h' k => hQ h' s.toks k
 self := fun i S s Q E st hQ => by
  obtain ⟨⟨o, a1, a2, a3⟩, _⟩ := st
  exact wpAny_pyIter_listiter ⟨o, a1, a2, a3⟩ hQ
theorem DA {I l : Addr} (hne : l ≠ I) (ds : List D) : ItK G A tg I [I] (Wj "tuple" "tuple_iterator" I l ds) ds where
 shape := fun i S h st b hb => by
  obtain ⟨⟨o, a1, a2, a3⟩, _⟩ := st
  exact ⟨o, by rw [List.mem_singleton.mp hb]; exact a1, _, _, a2, by decide, by decide, by decide, a3⟩
 ext := Wj.ext (.inr rfl)
 item := fun i S s d Q E E' hd st hQ => by
  obtain ⟨⟨o, a1, a2, a3⟩, ol, vs, n, b1, b2, b3, b4, b5⟩ := st
  obtain ⟨v, hv, rv⟩ := b4.get hd
  refine next_tuple_item ⟨o, a1, a2, a3⟩ ⟨ol, b1, b2, n, b3⟩ (by simpa using hv) fun h' it' k' => ⟨v, rfl, ?_⟩
  have it0 := it'
  obtain ⟨o', c1, c2, c3⟩ := it0
  have kb := KB.of_sameBut k' ⟨o', c1⟩
  have sh : ∀ b ∈ [I], ∃ o, s.heap.get? b = some o ∧ ZD o := fun b hb => ⟨o, by rw [List.mem_singleton.mp hb]; exact a1, _, _, a2, by decide, by decide, by decide, a3⟩
  exact Ws (s := { s with heap := h' }) c1 c2 c3 (by decide) (hQ v h' s.toks (rv.aside sh kb) ⟨⟨o', c1, c2, c3⟩, ol, vs, n, (k'.2 l hne).trans b1, b2, b3, b4.aside sh kb, b5⟩ kb)
 done := fun S s Q E st hh hni hQ => by
  obtain ⟨⟨o, a1, a2, a3⟩, ol, vs, n, b1, b2, b3, b4, b5⟩ := st
  exact JC hh a1 a2 a3 b1 b3 (by have := b4.length; simp at this; simp [this]) (fun v e => hni v e I (.head _)) fun h' k => hQ h' s.toks k
 self := fun i S s Q E st hQ => by
  obtain ⟨⟨o, a1, a2, a3⟩, _⟩ := st
  exact wpAny_pyIter_tupleiter ⟨o, a1, a2, a3⟩ hQ
noncomputable def VZ (I : Addr) (lo st : Int) (n : Nat) (i : Nat) (_ : Addr → Prop) (h : Heap) : Prop := IsRangeIter h I (lo + i * st) ((n : Int) - i) st
theorem DC {I : Addr} (lo st : Int) (n : Nat) : ItK G A tg I [I] (VZ I lo st n) ((List.range n).map fun (i : Nat) => D.int (lo + i * st)) where
 shape := fun i S h q b hb => by cases List.mem_singleton.mp hb; exact ⟨_, q, _, _, rfl, by decide, by decide, by decide, rfl⟩
 ext := fun i S h S' h' q x => x.exact q (.inr (.inr ⟨_, rfl⟩)) (.fields rfl)
 item := fun i S s d Q E E' hd q hQ => by
  have hi : i < n := by
   have := (List.getElem?_eq_some_iff.mp hd).1
   simpa using this
  have hdd : d = .int (lo + i * st) := by simp [hi] at hd; exact hd.symm
  subst hdd
  refine wpAny_pyNext_range_item q (by (simpa using hi)) fun h' it' k' => ⟨_, rfl, ?_⟩
  have q' : VZ I lo st n (i + 1) S h' := by
   unfold VZ
   have e1 : lo + (i : Int) * st + st = lo + ((i + 1 : Nat) : Int) * st := by rw [Int.natCast_add, Int.add_mul]; simp; simp +arith
   have e2 : (n : Int) - i - 1 = (n : Int) - ((i + 1 : Nat) : Int) := by simp +arith
   rw [← e1, ← e2]; exact it'
  exact Ws (s := { s with heap := h', toks := s.toks + 1 }) it' rfl rfl (by decide) (hQ _ h' _ (.int _ _) q' (KB.of_sameBut k' ⟨_, it'⟩))
 done := fun S s Q E q hh hni hQ => by
  have q : IsRangeIter s.heap I _ _ _ := q
  exact OP hh q (by simp) fun h' k => hQ h' s.toks k
 self := fun i S s Q E q hQ => wpAny_pyIter_rangeiter q hQ
end
noncomputable def Zt : D → Option (List D)
 | .list ds => some ds
 | .tup ds => some ds
 | .range lo hi st => if ZF lo hi st then some (Uq lo hi st) else none
 | _ => none
noncomputable def ZB (f : AEnv → Res T) : AEnv → Res (List D) := fun ρ => (f ρ).bind fun t ρ₁ => match Zt t.val with
 | some ds => .ok ds ρ₁
 | none => .stuck
set_option tactic.hygienic true in
theorem Zl {G : Gd} {k : Nat} {sc : Scope} {tg e : Expr} {f : AEnv → Res T} (h : Sim G k sc e f) : Vo G k sc tg e (ZB f) := by
 intro cx ok ρ S s r Q E out
 refine (h cx ok ρ S s r).shared _ _ ?_
 refine Dq.stepS (s := s) (tg := tg) out (Ext.refl ..) fun t ρ₁ out v h₁ t₁ S₁ r₁ j₁ x₁ v₁ => ?_
 have nw : ∀ b ∈ [h₁.objs.size], s.heap.get? b = none := fun b hb => by
  rw [List.mem_singleton.mp hb]
  exact x₁.none (Heap.get?_none_of_le (Nat.le_refl _))
 cases hd : Zt t.val with
 | none => rw [hd] at out; exact out.elim
 | some ds =>
  rw [hd] at out
  simp only at out
  unfold Zt at hd
  split at hd
  ·rename_i ds' e
   cases hd
   rw [e] at j₁
   cases j₁ with
   | list hs e1 e2 e3 q =>
    rename_i a o vs n
    refine wpAny_pyIter_list (s := { s with heap := h₁, toks := t₁ }) ⟨o, e1, e2.1, n, e3⟩ ?_
    have hne : a ≠ h₁.objs.size := fun e => by rw [e, Heap.get?_none_of_le (Nat.le_refl _)] at e1; cases e1
    exact out _ [h₁.objs.size] _ S₁ _ t₁ (Rel.push (s := { s with heap := h₁ }) r₁ _) (EQ hne ds) ⟨⟨_, Heap.get?_push_size _ rfl, rfl, rfl⟩, o, vs, n, Heap.get?_push_of_some _ e1, e2.1, e3, q.ext (Xw _), fun _ => hs⟩ nw (x₁.trans (Xw _)) ((v₁ rfl).trans (r₁.same (XZ _)))
  ·rename_i ds' e
   cases hd
   rw [e] at j₁
   cases j₁ with
   | tup e1 e2 e3 q =>
    rename_i a o vs n
    refine iter_tuple (s := { s with heap := h₁, toks := t₁ }) ⟨o, e1, e2, n, e3⟩ ?_
    have hne : a ≠ h₁.objs.size := fun e => by rw [e, Heap.get?_none_of_le (Nat.le_refl _)] at e1; cases e1
    exact out _ [h₁.objs.size] _ S₁ _ t₁ (Rel.push (s := { s with heap := h₁ }) r₁ _) (DA hne ds) ⟨⟨_, Heap.get?_push_size _ rfl, rfl, rfl⟩, o, vs, n, Heap.get?_push_of_some _ e1, e2, e3, q.ext (Xw _), fun q => absurd q (by decide)⟩ nw (x₁.trans (Xw _)) ((v₁ rfl).trans (r₁.same (XZ _)))
  ·rename_i lo hi st e
   rw [e] at j₁
   split at hd
   ·rename_i hf
    cases hd
    obtain ⟨f1, f2, f3⟩ := WE hf
    cases j₁ with
    | range hr =>
     refine wpAny_pyIter_range (s := { s with heap := h₁, toks := t₁ }) hr f1 ?_
     refine out _ [h₁.objs.size] _ S₁ _ t₁ (Rel.push (s := { s with heap := h₁ }) r₁ _) (DC lo st (WG lo hi st)) ?_ nw (x₁.trans (Xw _)) ((v₁ rfl).trans (r₁.same (XZ _)))
     show IsRangeIter _ _ _ _ _
     rw [f2]
     simpa using Heap.get?_push_size _ rfl
   ·cases hd
  ·cases hd
end Mine
end

section
set_option Elab.async false
set_option maxRecDepth 100000
namespace Mine
open PySem PyProof.Rows
noncomputable def U7 (cx : Cx) (sc : Scope) (x : Str) : Prop := sc.names.lookup x = some .local ∨ (sc.names.lookup x = some .cell ∧ ∃ c, cx.env.cells.lookup x = some c ∧ cx.h₀.get? c = none)
noncomputable def KZ (G : Gd) (sc : Scope) (tg : Expr) (xs : List Str) (b : D → AEnv → Option AEnv) : Prop :=
 ∀ cx k, CxOk G cx sc k → FnCx G cx → (∀ x ∈ xs, U7 cx sc x) → ∀ ρ S s v d ρ', Rel G cx sc ρ S s.heap → RV S s.heap v d → b d ρ = some ρ' → Qx G cx sc false (assign tg cx.env v) S s (fun _ _ _ (_ : Unit) => True) (.ok () ρ')
noncomputable def XG (i : Nat) : D → AEnv → Option AEnv := fun d ρ => some (ρ.set i (some (.sh d)))
theorem VJ {G : Gd} {sc : Scope} {x : Str} {p : Pos} {i : Nat} (hx : (Qg sc)[i]? = some x) : KZ G sc (.Name x p) [x] (XG i) := by
 intro cx k ok fn hn ρ S s v d ρ' r q e
 cases e
 rw [PySem.assign_Name]
 exact Qx.standAt ((Ww (ok.mono (Nat.zero_le _)) fn r hx (hn x (.head _)) (.inr ⟨d, rfl⟩) (t := .sh d) q).wp fun Q E h => wpAny_bindName h)
noncomputable def CM : List Nat → List D → AEnv → Option AEnv
 | [], [], ρ => some ρ
 | i :: is, d :: ds, ρ => CM is ds (ρ.set i (some (.sh d)))
 | _, _, _ => none
noncomputable def Y6 (is : List Nat) : D → AEnv → Option AEnv
 | .tup ds, ρ => if ds.length = is.length then CM is ds ρ else none
 | _, _ => none
inductive Names (sc : Scope) : List Expr → List Str → List Nat → Prop
 | nil : Names sc [] [] []
 | cons {x : Str} {p : Pos} {i : Nat} {es : List Expr} {xs : List Str} {is : List Nat} : (Qg sc)[i]? = some x → Names sc es xs is → Names sc (.Name x p :: es) (x :: xs) (i :: is)
theorem Names.each {sc : Scope} {es : List Expr} {xs : List Str} {is : List Nat} (h : Names sc es xs is) (env : Env) : (assignEach es env).length = is.length ∧ (assignEach es env).findIdx? (·.1) = none := by
 induction h with
 | nil => exact ⟨rfl, rfl⟩
 | cons _ _ ih =>
  obtain ⟨l, f⟩ := ih
  refine ⟨congrArg (· + 1) l, ?_⟩
  show List.findIdx? (·.1) ((false, _) :: assignEach _ env) = none
  rw [List.findIdx?_cons, f]; rfl
theorem V0 {G : Gd} {sc : Scope} {cx : Cx} {k : Nat} (ok : CxOk G cx sc k) (fn : FnCx G cx) {es : List Expr} {xs : List Str} {is : List Nat} (h : Names sc es xs is) : (∀ x ∈ xs, U7 cx sc x) → ∀ {vs : List Value} {ds : List D} {ρ ρ' : AEnv} {S : Addr → Prop} {s : Shared}, Rel G cx sc ρ S s.heap → RVs S s.heap vs ds → CM is ds ρ = some ρ' →
  Qx G cx sc false (assignInOrder ((assignEach es cx.env).map (·.2)) vs) S s (fun _ _ _ (_ : Unit) => True) (.ok () ρ') := by
 induction h with
 | nil =>
  intro _ vs ds ρ ρ' S s r q e
  cases q with
  | nil => cases e; exact Qx.pure r trivial
  | cons _ _ => cases e
 | cons hx _ ih =>
  intro hn vs ds ρ ρ' S s r q e
  cases q with
  | nil => cases e
  | cons q1 q2 =>
   intro Q E out
   refine assignInOrder_cons (VJ hx cx k ok fn (fun y hy => by rw [List.mem_singleton.mp hy]; exact hn _ (.head _)) ρ S s _ _ _ r q1 rfl _ _ ?_)
   intro _ h₁ t₁ S₁ r₁ _ x₁ _
   refine ih (fun y hy => hn y (.tail _ hy)) (s := { s with heap := h₁, toks := t₁ }) r₁ (q2.ext x₁) e _ _ ?_
   intro _ h₂ t₂ S₂ r₂ _ x₂ _
   exact out () h₂ t₂ S₂ r₂ trivial (x₁.trans x₂) fun z => by cases z
section
variable {prog : Program} {w : World} {A : Around} {E : Value → Shared → Prop} {s : Shared}
theorem KW {t : Addr} {items : Array Value} {Q : List Value → Shared → Prop} (hh : HOk A s.heap) (ht : IsTup s.heap t items)
  (hQ : ∀ h', (∀ b o, s.heap.get? b = some o → h'.get? b = some o) → Q items.toList { s with heap := h' }) : wpAny (model prog w) A (unpackItems (.ref t) items.size none) Q E s := by
 have hlt : t ≠ s.heap.objs.size := by obtain ⟨o, ho, _⟩ := ht; exact Nat.ne_of_lt (Heap.lt_size ho)
 unfold unpackItems
 refine wpAny_bind ?_
 ·unfold notIterableAtAll
  refine wpAny_bind (wpAny_specialOf ht.typeIs slot_tuple_iter.lookup ?_)
  refine wpAny_pure ?_
  simp only [Bool.false_eq_true, if_false]
  refine wpAny_bind (wpAny_holding (iter_tuple ht ?_))
  refine wpAny_bind (wpAny_holding (draw_tuple hlt items.size 0 _ _ ⟨_, Heap.get?_push_size _ rfl, rfl, rfl⟩ (ht.push _) (by simp +arith) fun h₁ hit₁ hs₁ => ?_))
  have hall : List.take items.size (List.drop 0 items.toList) = items.toList := by
   rw [List.drop_zero]; exact List.take_of_length_le (by simp)
  rw [hall]
  rw [if_neg (by simp)]
  have ht₁ : IsTup h₁ t items := (ht.push _).extBut hs₁.extBut hlt
  obtain ⟨oi, i1, i2, i3⟩ := hit₁
  obtain ⟨ot, t1, t2, nt, t3⟩ := ht₁
  have keep : ∀ b o, s.heap.get? b = some o → h₁.get? b = some o := fun b o e => hs₁.extBut b o (Nat.ne_of_lt (Heap.lt_size e)) (Heap.get?_push_of_some _ e)
  refine wpAny_bind (wpAny_holding (JC (s := { s with heap := h₁ }) (hh.keeps fun b o vs e hd h2 => ⟨o, vs, keep b o e, hd, h2⟩) i1 i2 i3 t1 t3 (by simp) (fun v hv => ?_) fun h₂ k₂ => ?_))
  ·obtain ⟨a, o, vs, rfl, h1, _⟩ := hh v hv
   intro q
   cases q
   exact absurd (Heap.lt_size h1) (Nat.lt_irrefl _)
  simp only [Option.isSome_none, Bool.false_eq_true, if_false]
  refine wpAny_pure (hQ h₂ fun b o e => k₂.1 b o (by simp; exact Nat.ne_of_lt (Heap.lt_size e)) (keep b o e))
end
set_option tactic.hygienic true in
theorem O1 {G : Gd} {sc : Scope} {es : List Expr} {xs : List Str} {is : List Nat} {n : Nat} {p : Pos} (h : Names sc es xs is) : KZ G sc (.Tuple es n p) xs (Y6 is) := by
 intro cx k ok fn hn ρ S s v d ρ' r q e
 unfold Y6 at e
 split at e
 ·rename_i ds
  split at e
  ·rename_i hl
   cases q with
   | tup e1 e2 e3 q =>
    rename_i a o vs m
    rw [assign_Tuple]
    refine Qx.standAt ?_
    intro Q E out
    unfold unpack
    obtain ⟨l, f⟩ := h.each cx.env
    have hsz : vs.size = ds.length := by rw [← q.length]; simp
    rw [l, f, ← hl, ← hsz]
    refine wpAny_bind (wpAny_holding (KW r.hOk ⟨o, e1, e2, m, e3⟩ fun h' hk => ?_))
    obtain ⟨r', x', v'⟩ := r.keepsE hk
    refine V0 ok fn h hn (s := { s with heap := h' }) r' (q.ext x') e _ _ ?_
    intro _ h₂ t₂ S₂ r₂ _ x₂ _
    exact out () h₂ t₂ S₂ r₂ trivial (x'.trans x₂) fun z => by cases z
  ·cases e
 ·cases e
noncomputable def ZT (b : D → AEnv → Option AEnv) (body : AEnv → Res Fl) : List D → AEnv → Res Fl
 | [], ρ => .ok .next ρ
 | d :: ds, ρ => match b d ρ with
  | none => .stuck
  | some ρ₁ => (body ρ₁).bind fun fl ρ₂ => match fl with
   | .next => ZT b body ds ρ₂
   | .cont => ZT b body ds ρ₂
   | .brk => .ok .next ρ₂
   | .ret t => .ok (.ret t) ρ₂
noncomputable def UY (src : AEnv → Res (List D)) (b : D → AEnv → Option AEnv) (body : AEnv → Res Fl) : AEnv → Res Fl := fun ρ => (src ρ).bind fun ds ρ₁ => ZT b body ds ρ₁
theorem W3 {α : Type} {l : List α} {i : Nat} {d : α} (h : l[i]? = some d) : l.drop i = d :: l.drop (i + 1) := by
 obtain ⟨h1, rfl⟩ := List.getElem?_eq_some_iff.mp h
 exact List.drop_eq_getElem_cons h1
theorem ET {A : Around} {h : Heap} (hh : HOk A h) {wr : List Addr} (new : ∀ b ∈ wr, h.get? b = none) : ∀ v, A.handled = some v → ∀ b ∈ wr, v ≠ .ref b := fun v hv b hb q => by
 obtain ⟨a, o, vs, rfl, h1, _⟩ := hh v hv
 cases q
 rw [new _ hb] at h1; cases h1
section
variable {G : Gd} {k : Nat} {sc : Scope}
inductive FInv (G : Gd) (cx : Cx) (sc : Scope) (S : Addr → Prop) (St : Nat → (Addr → Prop) → Heap → Prop) (P : Res Fl → Prop) (fo : List D → AEnv → Res Fl) (ds : List D) (s : Shared) : Nat → Shared → Prop
 | mk {i : Nat} {ρ' : AEnv} {S' : Addr → Prop} {h' : Heap} {tk : Nat} : i ≤ ds.length → Rel G cx sc ρ' S' h' → St i S' h' → Ext S s.heap S' h' → P (fo (ds.drop i) ρ') → FInv G cx sc S St P fo ds s (ds.length + 1 - i) { s with heap := h', toks := tk }
set_option tactic.hygienic true in
theorem Fi {tg iter : Expr} {body : List Stmt} {pos : Pos} {src : AEnv → Res (List D)} {xs : List Str} {b : D → AEnv → Option AEnv} {f : AEnv → Res Fl} (hi : Vo G k sc tg iter src) (ht : KZ G sc tg xs b) (hxs : ∀ x ∈ xs, sc.names.lookup x = some .local ∨ sc.names.lookup x = some .cell) (hb : Yt G k sc body f)
  (hs : ∀ env x, foldedSetIterable iter env x = pure x) : Jd G k sc (.For tg iter body [] pos) (UY src b f) := by
 intro cx ok fn ρ S s r Q E out
 refine wpAny_For ?_ (hs cx.env)
 refine hi cx ok ρ S s r _ _ ?_
 unfold UY at out
 cases hsrc : src ρ with
 | stuck => rw [hsrc] at out; exact out.elim
 | exc C ρ₁ => rw [hsrc] at out; exact out
 | ok ds ρ₁ =>
  rw [hsrc] at out
  simp only [Res.bind] at out
  intro I wr St S₁ h₁ t₁ r₁ it st₁ nw x₁ v₁
  have hn : ∀ x ∈ xs, U7 cx sc x := fun x hx => (hxs x hx).imp id fun q => ⟨q, fn.has x (by unfold Env.kindOf; rw [ok.hsc]; exact q)⟩
  have new : ∀ b ∈ wr, cx.h₀.get? b = none ∧ G.B.get? b = none := fun b hb => ⟨r.keep.none (nw b hb), by
   cases q : G.B.get? b with
   | none => rfl
   | some o => have := r.base b o q; rw [nw b hb] at this; cases this⟩
  have err : ∀ C ρ', Out G cx sc false S s (fun S' h' a b => FlJ cx S' h' a b) Q E (.exc C ρ') → ∀ e h' tk S', Rel G cx sc ρ' S' h' → Fly s.heap h' e C → Ext S s.heap S' h' → notedBy G.M cx.A cx.env (fun e s' => cameBackBy G.M cx.A cx.env E e s') (.ref e) { s with heap := h', toks := tk } := fun C ρ' o e h' tk S' r' f' x' => B2 ok r o r' f' x'
  obtain ⟨Inv, hI, hC⟩ : ∃ Inv : Nat → Shared → Prop, (∀ m s', FInv G cx sc S St (Out G cx sc false S s (fun S' h' a b => FlJ cx S' h' a b) Q E) (ZT b f) ds s m s' → Inv m s') ∧ ∀ m s', Inv m s' → FInv G cx sc S St (Out G cx sc false S s (fun S' h' a b => FlJ cx S' h' a b) Q E) (ZT b f) ds s m s' := ⟨_, fun _ _ q => q, fun _ _ q => q⟩
  refine codeAny_forLoop_any Inv ?_ (ds.length + 1) (hI _ _ (.mk (i := 0) (tk := t₁) (Nat.zero_le _) r₁ st₁ x₁ (by rw [List.drop_zero]; exact out)))
  generalize (notedBy G.M cx.A cx.env fun e s' => cameBackBy G.M cx.A cx.env E e s') = EN at err ⊢
  intro m s' hinv
  cases hC m s' hinv with
  | mk hi' r' st' x' out' =>
  rename_i i ρ' S' h' tk
  by_cases hlt : i < ds.length
  ·have hd : ds[i]? = some ds[i] := List.getElem?_eq_getElem hlt
   rw [W3 hd] at out'
   rw [ZT] at out'
   cases hbd : b ds[i] ρ' with
   | none => rw [hbd] at out'; exact out'.elim
   | some ρ₂ =>
    rw [hbd] at out'
    simp only at out'
    refine wpAny_mono (it.item i S' { s with heap := h', toks := tk } ds[i] _ _ EN hd st' fun v h₂ t₂ rv st₂ kb => (?_ : (fun v s₂ => wpAny G.M cx.A (assign tg cx.env v) (fun _ s₂ => wpAny G.M cx.A (execs body cx.env) (fun f s₃ => match f with
      | .next | .cont => ∃ m', m' < ds.length + 1 - i ∧ Inv m' s₃
      | .brk => Q .next s₃
      | .ret v => Q (.ret v) s₃) EN s₂) EN s₂) v _)) (fun rr s₁ h₁ => by
       obtain ⟨v, rfl, h₁⟩ := h₁
       exact h₁) fun _ _ e => e
    obtain ⟨r₂, v₂⟩ := r'.aside (it.shape i S' h' st') new kb
    have x₂ := x'.aside nw kb
    refine ht cx k ok fn.toFnCx hn ρ' S' { s with heap := h₂, toks := t₂ } v ds[i] ρ₂ r₂ rv hbd _ _ ?_
    intro _ h₃ t₃ S₃ r₃ _ x₃ _
    have st₃ := it.ext _ _ _ _ _ st₂ x₃
    refine hb cx ok fn ρ₂ S₃ { s with heap := h₃, toks := t₃ } r₃ _ _ (Out.stepE (s := s) out' (x₂.trans x₃) err fun fl ρ₃ out' a h₄ t₄ S₄ r₄ j₄ x₄ _ => ?_)
    have st₄ := it.ext _ _ _ _ _ st₃ x₄
    have xx := (x₂.trans x₃).trans x₄
    cases a <;> cases fl <;> first
     | exact j₄.elim
     | exact ⟨ds.length + 1 - (i + 1), by omega, hI _ _ (.mk (i := i + 1) (tk := t₄) hlt r₄ st₄ xx out')⟩
     | exact out' _ h₄ t₄ S₄ r₄ j₄ xx fun q => by cases q
  ·have hie : i = ds.length := by exact Nat.le_antisymm hi' (Nat.le_of_not_lt hlt)
   subst hie
   rw [List.drop_length] at out'
   refine it.done S' { s with heap := h', toks := tk } _ _ st' r'.hOk (ET r.hOk nw) fun h₂ t₂ kb => ?_
   obtain ⟨r₂, v₂⟩ := r'.aside (it.shape _ S' h' st') new kb
   exact wpAny_execs_nil (out' .next h₂ t₂ S' r₂ trivial (x'.aside nw kb) fun q => by cases q)
end
end Mine
end

section
set_option Elab.async false
set_option maxRecDepth 100000
namespace Mine
open PySem PyProof.Rows
section
variable {prog : Program} {w : World} {A : Around} {E : Value → Shared → Prop} {s : Shared}
theorem Kf {it l : Addr} {i : Nat} {items} {x : Value} {Q : Value → Shared → Prop} (hit : IsTupIter s.heap it l i) (hl : IsTup s.heap l items) (hx : items[i]? = some x)
  (hQ : ∀ h', IsTupIter h' it l (i + 1) → Heap.SameBut it s.heap h' → Q x { s with heap := h' }) : wpAny (model prog w) A (Builtin.SmallTypes.nextOf (.ref it)) Q E s := by
 obtain ⟨o, ho, hc, hd⟩ := id hit
 obtain ⟨ol, hol, _, nl, hdl⟩ := hl
 unfold Builtin.SmallTypes.nextOf
 refine wpAny_bind (wpAny_callSpecial?_slot (name := Str.ofString "__next__") hit.typeIs slot_tupleiter_next
  (wpAny_call_entry slot_tupleiter_next hit.typeIs entry_tupleiter_next ?_ (args_tupleiter_next _)))
 show wpAny _ _ (field (.ref it) 0 >>= _) _ _ s
 refine wpAny_bind (wpAny_field ho hd (x := .ref l) rfl ?_)
 show wpAny _ _ (if (Value.ref l == Value.none) = true then _ else _) _ _ s
 rw [if_neg (show ¬ ((Value.ref l == Value.none) = true) from Bool.false_ne_true)]
 show wpAny _ _ (field (.ref it) 1 >>= _) _ _ s
 refine wpAny_bind (wpAny_field ho hd (x := .int i 0) rfl ?_)
 show wpAny _ _ (seqItems? (.ref l) >>= _) _ _ s
 refine wpAny_bind (wpAny_seqItems hol hdl ?_)
 simp only [Int.toNat_natCast, hx]
 refine wpAny_bind (wpAny_setField ho hd (by simp) (wpAny_pure ⟨x, rfl, wpAny_pure (hQ _ ?_ (Heap.SameBut.update ..))⟩))
 exact ⟨_, Heap.get?_update_self _ ho (Obj.isFreed_of_fields (Obj.data_mapFields hd _)), (Obj.cls_mapFields ..).trans hc, by
  rw [Obj.data_mapFields hd]; simp [rawInt]⟩
theorem J7 {it l : Addr} {i : Nat} {items} {Q : Value → Shared → Prop} (hh : HOk A s.heap) (hni : ∀ v, A.handled = some v → v ≠ .ref it) (hit : IsTupIter s.heap it l i) (hl : IsTup s.heap l items) (hx : items[i]? = none)
  (hE : ∀ h' e, KB [it] s.heap h' → (∃ o, h'.get? e = some o ∧ o.cls = .type "StopIteration") → E (.ref e) { s with heap := h' }) : wpAny (model prog w) A (Builtin.SmallTypes.nextOf (.ref it)) Q E s := by
 obtain ⟨o, ho, hc, hd⟩ := id hit
 obtain ⟨ol, hol, _, nl, hdl⟩ := hl
 unfold Builtin.SmallTypes.nextOf
 refine wpAny_bind (wpAny_callSpecial?_slot (name := Str.ofString "__next__") hit.typeIs slot_tupleiter_next
  (wpAny_call_entry slot_tupleiter_next hit.typeIs entry_tupleiter_next ?_ (args_tupleiter_next _)))
 exact Jo (A := A.in1) hh ho hd hol hdl hx hni hE
theorem K6 {it l : Addr} {i : Nat} {items} {Q : Value → Shared → Prop} (hh : HOk A s.heap) (hni : ∀ v, A.handled = some v → v ≠ .ref it) (hit : s.heap.IsListIter it l i) (hl : s.heap.IsList l items) (hx : items[i]? = none)
  (hE : ∀ h' e, KB [it] s.heap h' → (∃ o, h'.get? e = some o ∧ o.cls = .type "StopIteration") → E (.ref e) { s with heap := h' }) : wpAny (model prog w) A (Builtin.SmallTypes.nextOf (.ref it)) Q E s := by
 obtain ⟨o, ho, hc, hd⟩ := id hit
 obtain ⟨ol, hol, _, nl, hdl⟩ := hl
 unfold Builtin.SmallTypes.nextOf
 refine wpAny_bind (wpAny_callSpecial?_slot (name := Str.ofString "__next__") hit.typeIs slot_listiter_next
  (wpAny_call_entry slot_listiter_next hit.typeIs entry_listiter_next ?_ (args_listiter_next _)))
 exact JO (A := A.in1) hh ho hd hol hdl hx hni hE
end
theorem KB.ext {a : Addr} {h h' : Heap} (k : KB [a] h h') : Heap.ExtBut a h h' := fun b o hb e => k.1 b o (by simpa using hb) e
theorem BS {prog : Program} {w : World} {A : Around} (hh : A.handled = none) (it l : Addr) (hne : l ≠ it) (items : Array Value) :
  Draws prog w A it [it, l] items.size (fun i v => items[i]? = some v) (fun i h => IsTupIter h it l i ∧ IsTup h l items) where
 live := fun _ _ st => let ⟨o, ho, _⟩ := st.1; ⟨o, ho⟩
 frame := fun _ _ _ st hk => ⟨let ⟨o, ho, r⟩ := st.1; ⟨o, hk it (by simp) o ho, r⟩, let ⟨o, ho, r⟩ := st.2; ⟨o, hk l (by simp) o ho, r⟩⟩
 item := fun i s Q E hi st hQ => by
  refine Kf st.1 st.2 (x := items[i]) (by simp [hi]) fun h' hit' hs' => ?_
  exact hQ _ h' s.toks (by simp [hi]) ⟨hit', st.2.extBut hs'.extBut hne⟩ hs'
 done := fun s Q E st hE => J7 (fun v e => by rw [hh] at e; cases e) (fun v e => by rw [hh] at e; cases e) st.1 st.2 (by simp) fun h' e k he => hE h' e k.ext he
open AutoSeq1 (wpAny_loadPart') in
set_option tactic.hygienic true in
theorem UN (l : Addr) (items : Array Value) (n : Nat) (dct : Option Addr) (sl : Array (Option Value)) :
  Meets (Builtin.«enumerate.__new__» ⟨[.type "enumerate", .ref l], []⟩) (fun _ R s => s.heap.get? l = some { cls := .type "tuple", dict := dct, data := .seq items n, slots := sl } ∧
   R (.ok (.ret (.ref (s.heap.push { cls := .type "tuple_iterator", data := .fields #[.ref l, .int 0 0] }).objs.size)))
    { s with heap := (s.heap.push { cls := .type "tuple_iterator", data := .fields #[.ref l, .int 0 0] }).push { cls := .type "enumerate", data := .fields #[.none, .bool false, .ref s.heap.objs.size, rawInt 0, .none, .none] } }) :=
 .of_wp fun prog w A R s h => by
  obtain ⟨hp, g, d, tk, os⟩ := s; obtain ⟨hl, h⟩ := h
  have hsub := sub_enumerate
  have hL : IsTup (Shared.heap ⟨hp, g, d, tk, os⟩) l items := ⟨_, hl, rfl, n, rfl⟩
  wp_walk using wpAny_loadPart' hl
  refine wpAny_stack_any fun st => wpAny_pure ?_
  split
  ·rename_i c _ _ _ _ _
   cases (c == Value.type "enumerate")
   ·wp_walk using wpAny_loadPart' hl, iter_tuple hL
    exact ⟨_, rfl, h⟩
   ·wp_walk using wpAny_loadPart' hl, iter_tuple hL
    exact ⟨_, rfl, h⟩
  ·wp_walk using wpAny_loadPart' hl, iter_tuple hL
   exact ⟨_, rfl, h⟩
theorem UL {prog : Program} {w : World} {A : Around} {E : Value → Shared → Prop} {s : Shared} {l : Addr} {items : Array Value} {Q : Value → Shared → Prop} (hL : IsTup s.heap l items)
  (h : ∀ h', IsEnum h' (s.heap.objs.size + 1) s.heap.objs.size 0 .none → IsTupIter h' s.heap.objs.size l 0 → (∀ b o, s.heap.get? b = some o → h'.get? b = some o) → Q (.ref (s.heap.objs.size + 1)) { s with heap := h' }) :
  wpAny (model prog w) A (call (.type "enumerate") [.ref l]) Q E s := by
 obtain ⟨⟨c, dct, dt, sl⟩, hl, hc, n, hd⟩ := hL
 replace hc : c = .type "tuple" := hc
 replace hd : dt = .seq items n := hd
 subst hc hd
 refine callType_new F.called_enumerate (by decide) (F.typeCall_enumerate_1 _) (F.newCall_enumerate_1 _) (fun obj => F.args_object_init_2 obj _) F.entry_enumerate_new
  (UN l items n dct sl) ⟨hl, ?_⟩
 have hz : (s.heap.push { cls := .type "tuple_iterator", data := .fields #[.ref l, .int 0 0] }).objs.size = s.heap.objs.size + 1 := Heap.size_push ..
 show _ ∧ _
 rw [hz]
 have he : IsEnum ((s.heap.push { cls := .type "tuple_iterator", data := .fields #[.ref l, .int 0 0] }).push
   { cls := .type "enumerate", data := .fields #[.none, .bool false, .ref s.heap.objs.size, rawInt 0, .none, .none] }) (s.heap.objs.size + 1) s.heap.objs.size 0 .none := by
  have := Heap.get?_push_size (s.heap.push { cls := .type "tuple_iterator", data := .fields #[.ref l, .int 0 0] })
   (o := { cls := .type "enumerate", data := .fields #[.none, .bool false, .ref s.heap.objs.size, rawInt 0, .none, .none] }) rfl
  rw [hz] at this; exact this
 exact ⟨⟨_, he, rfl⟩, h _ he ⟨_, Heap.get?_push_of_some _ (Heap.get?_push_size _ rfl), rfl, rfl⟩ fun b o x => Heap.get?_push_of_some _ (Heap.get?_push_of_some _ x)⟩
noncomputable def Uv (ds : List D) : List D := ds.zipIdx.map fun x => .tup [.int x.2, x.1]
theorem VN {ds : List D} {i : Nat} {d : D} (h : (Uv ds)[i]? = some d) : ∃ e, ds[i]? = some e ∧ d = .tup [.int i, e] := by
 unfold Uv at h
 rw [List.getElem?_map] at h
 obtain ⟨x, hx, rfl⟩ := Option.map_eq_some_iff.mp h
 rw [List.getElem?_zipIdx] at hx
 obtain ⟨e, he, rfl⟩ := Option.map_eq_some_iff.mp hx
 exact ⟨e, he, by simp⟩
noncomputable def CP (T It : String) (e it l : Addr) (ds : List D) (i : Nat) (S : Addr → Prop) (h : Heap) : Prop := (∃ old, IsEnum h e it i old) ∧ Wj T It it l ds i S h
section
variable {G : Gd} {A : Around} {es : List Expr} {n : Nat} {p : Pos}
theorem Uh {T It : String} {e it l : Addr} {ds : List D} (hIt : It ≠ "tuple" ∧ It ≠ "list" ∧ It ≠ "range") : ∀ i S h, CP T It e it l ds i S h → ∀ b ∈ [e, it], ∃ o, h.get? b = some o ∧ ZD o := by
 rintro i S h ⟨⟨old, he⟩, ⟨o, a1, a2, a3⟩, _⟩ b hb
 rcases List.mem_cons.mp hb with rfl | hb
 ·exact ⟨_, he, _, _, rfl, by decide, by decide, by decide, rfl⟩
 ·rw [List.mem_singleton.mp hb]
  exact ⟨o, a1, _, _, a2, hIt.1, hIt.2.1, hIt.2.2, a3⟩
theorem D8 {e it l : Addr} (hh : A.handled = none) (hei : e ≠ it) (hle : l ≠ e) (hli : l ≠ it) (ds : List D) : ItK G A (.Tuple es n p) e [e, it] (CP "tuple" "tuple_iterator" e it l ds) (Uv ds) where
 shape := Uh (by decide)
 ext := fun i S h S' h' st x => ⟨let ⟨old, he⟩ := st.1; ⟨old, x.exact he (.inr (.inr ⟨_, rfl⟩)) (.fields rfl)⟩, Wj.ext (.inr rfl) i S h S' h' st.2 x⟩
 item := fun i S s d Q E E' hd st hQ => by
  obtain ⟨x, hx, rfl⟩ := VN hd
  have sh := Uh (by decide) i S s.heap st
  obtain ⟨⟨old, he⟩, ⟨o, a1, a2, a3⟩, ol, vs, m, b1, b2, b3, b4, b5⟩ := st
  obtain ⟨v, hv, rv⟩ := b4.get hx
  have hi : i < vs.size := by
   have := (List.getElem?_eq_some_iff.mp hv).1
   simpa using this
  refine wpAny_pyNext_enum_itemD (BS (A := A.in1) hh it l hli vs) he ⟨⟨o, a1, a2, a3⟩, ol, b1, b2, m, b3⟩ hi hei (by simp; exact ⟨hei, Ne.symm hle⟩) fun y h' tk hP ho st' hT hsz hk => ?_
  have hy : y = v := by rw [show vs[i]? = some v by simpa using hv] at hP; cases hP; rfl
  subst hy
  refine ⟨_, rfl, wpAny_letOwnedTupleGo_enum (s := { s with heap := h', toks := tk + 1 }) ho fun h₂ he₂ hs₂ => ?_⟩
  have hlt : e < s.heap.objs.size := Heap.lt_size he
  have hlt' : it < s.heap.objs.size := Heap.lt_size a1
  obtain ⟨⟨o', c1, c2, c3⟩, _⟩ := st'
  have c1' : h₂.get? it = some o' := (hs₂.2 it (Ne.symm hei)).trans c1
  have kb : KB [e, it] s.heap h₂ := by
   refine ⟨fun b o hb eb => ?_, fun b hb => ?_⟩
   ·simp at hb
    exact (hs₂.2 b hb.1).trans (hk b o hb.1 hb.2 eb)
   ·rcases List.mem_cons.mp hb with rfl | hb
    ·exact ⟨_, he₂⟩
    ·rw [List.mem_singleton.mp hb]; exact ⟨_, c1'⟩
  have ht₂ : h₂.get? s.heap.objs.size = some { cls := .type "tuple", data := .seq #[.int i tk, y] } := (hs₂.2 _ (Nat.ne_of_gt hlt)).trans hT
  refine hQ _ h₂ _ (.tup ht₂ rfl rfl (.cons (.int _ _) (.cons (rv.aside sh kb) .nil))) ⟨⟨_, by simpa using he₂⟩, ⟨o', c1', c2, c3⟩, ol, vs, m, ?_, b2, b3, b4.aside sh kb, b5⟩ kb
  exact kb.1 l ol (by simp; exact ⟨hle, hli⟩) b1
 done := fun S s Q E st hh' hni hQ => by
  have hlen : (Uv ds).length = ds.length := by unfold Uv; simp
  rw [hlen] at st
  obtain ⟨⟨old, he⟩, ⟨o, a1, a2, a3⟩, ol, vs, m, b1, b2, b3, b4, b5⟩ := st
  have hT : s.TypeIs (.ref e) "enumerate" := ⟨_, he, rfl⟩
  unfold pyNext
  refine wpAny_bind (wpAny_attempt (wpAny_callSpecial?_slot (name := Str.ofString "__next__") hT F.slot_enumerate_next
   (wpAny_call_entry F.slot_enumerate_next hT F.entry_enumerate_next ?_ (F.args_enumerate_next_1 _))))
  show wpAny _ _ (field (.ref e) 2 >>= _) _ _ _
  refine wpAny_bind (wpAny_field he rfl (x := .ref it) rfl ?_)
  refine wpAny_bind (J7 (A := A.in1) hh' (fun v q => hni v q it (.tail _ (.head _))) ⟨o, a1, a2, a3⟩ ⟨ol, b1, b2, m, b3⟩ (by have := b4.length; simp at this; simp [this]) fun h' x kb hx' => ?_)
  obtain ⟨ox, ho, hc⟩ := hx'
  refine wpAny_bind (wpAny_isInstance (T := "StopIteration") (b := true) ⟨ox, ho, hc⟩ isSubtype_stop ?_)
  refine wpAny_pure (hQ h' s.toks ⟨fun b o hb eb => kb.1 b o (fun q => hb (.tail _ q)) eb, fun b hb => ?_⟩)
  rcases List.mem_cons.mp hb with rfl | hb
  ·exact ⟨_, kb.1 _ _ (by simpa using hei) he⟩
  ·exact kb.2 b hb
 self := fun i S s Q E st hQ => by
  obtain ⟨⟨old, he⟩, _⟩ := st
  exact wpAny_pyIter_enum he hQ
theorem Dw {e it l : Addr} (hh : A.handled = none) (hei : e ≠ it) (hle : l ≠ e) (hli : l ≠ it) (ds : List D) : ItK G A (.Tuple es n p) e [e, it] (CP "list" "list_iterator" e it l ds) (Uv ds) where
 shape := Uh (by decide)
 ext := fun i S h S' h' st x => ⟨let ⟨old, he⟩ := st.1; ⟨old, x.exact he (.inr (.inr ⟨_, rfl⟩)) (.fields rfl)⟩, Wj.ext (.inl rfl) i S h S' h' st.2 x⟩
 item := fun i S s d Q E E' hd st hQ => by
  obtain ⟨x, hx, rfl⟩ := VN hd
  have sh := Uh (by decide) i S s.heap st
  obtain ⟨⟨old, he⟩, ⟨o, a1, a2, a3⟩, ol, vs, m, b1, b2, b3, b4, b5⟩ := st
  obtain ⟨v, hv, rv⟩ := b4.get hx
  have hi : i < vs.size := by
   have := (List.getElem?_eq_some_iff.mp hv).1
   simpa using this
  refine wpAny_pyNext_enum_itemD (Draws.list (A := A.in1) hh it l hli vs) he ⟨⟨o, a1, a2, a3⟩, ol, b1, b2, m, b3⟩ hi hei (by simp; exact ⟨hei, Ne.symm hle⟩) fun y h' tk hP ho st' hT hsz hk => ?_
  have hy : y = v := by rw [show vs[i]? = some v by simpa using hv] at hP; cases hP; rfl
  subst hy
  refine ⟨_, rfl, wpAny_letOwnedTupleGo_enum (s := { s with heap := h', toks := tk + 1 }) ho fun h₂ he₂ hs₂ => ?_⟩
  have hlt : e < s.heap.objs.size := Heap.lt_size he
  have hlt' : it < s.heap.objs.size := Heap.lt_size a1
  obtain ⟨⟨o', c1, c2, c3⟩, _⟩ := st'
  have c1' : h₂.get? it = some o' := (hs₂.2 it (Ne.symm hei)).trans c1
  have kb : KB [e, it] s.heap h₂ := by
   refine ⟨fun b o hb eb => ?_, fun b hb => ?_⟩
   ·simp at hb
    exact (hs₂.2 b hb.1).trans (hk b o hb.1 hb.2 eb)
   ·rcases List.mem_cons.mp hb with rfl | hb
    ·exact ⟨_, he₂⟩
    ·rw [List.mem_singleton.mp hb]; exact ⟨_, c1'⟩
  have ht₂ : h₂.get? s.heap.objs.size = some { cls := .type "tuple", data := .seq #[.int i tk, y] } := (hs₂.2 _ (Nat.ne_of_gt hlt)).trans hT
  refine hQ _ h₂ _ (.tup ht₂ rfl rfl (.cons (.int _ _) (.cons (rv.aside sh kb) .nil))) ⟨⟨_, by simpa using he₂⟩, ⟨o', c1', c2, c3⟩, ol, vs, m, ?_, b2, b3, b4.aside sh kb, b5⟩ kb
  exact kb.1 l ol (by simp; exact ⟨hle, hli⟩) b1
 done := fun S s Q E st hh' hni hQ => by
  have hlen : (Uv ds).length = ds.length := by unfold Uv; simp
  rw [hlen] at st
  obtain ⟨⟨old, he⟩, ⟨o, a1, a2, a3⟩, ol, vs, m, b1, b2, b3, b4, b5⟩ := st
  have hT : s.TypeIs (.ref e) "enumerate" := ⟨_, he, rfl⟩
  unfold pyNext
  refine wpAny_bind (wpAny_attempt (wpAny_callSpecial?_slot (name := Str.ofString "__next__") hT F.slot_enumerate_next
   (wpAny_call_entry F.slot_enumerate_next hT F.entry_enumerate_next ?_ (F.args_enumerate_next_1 _))))
  show wpAny _ _ (field (.ref e) 2 >>= _) _ _ _
  refine wpAny_bind (wpAny_field he rfl (x := .ref it) rfl ?_)
  refine wpAny_bind (K6 (A := A.in1) hh' (fun v q => hni v q it (.tail _ (.head _))) ⟨o, a1, a2, a3⟩ ⟨ol, b1, b2, m, b3⟩ (by have := b4.length; simp at this; simp [this]) fun h' x kb hx' => ?_)
  obtain ⟨ox, ho, hc⟩ := hx'
  refine wpAny_bind (wpAny_isInstance (T := "StopIteration") (b := true) ⟨ox, ho, hc⟩ isSubtype_stop ?_)
  refine wpAny_pure (hQ h' s.toks ⟨fun b o hb eb => kb.1 b o (fun q => hb (.tail _ q)) eb, fun b hb => ?_⟩)
  rcases List.mem_cons.mp hb with rfl | hb
  ·exact ⟨_, kb.1 _ _ (by simpa using hei) he⟩
  ·exact kb.2 b hb
 self := fun i S s Q E st hQ => by
  obtain ⟨⟨old, he⟩, _⟩ := st
  exact wpAny_pyIter_enum he hQ
end
noncomputable def Bu (f : AEnv → Res T) : AEnv → Res (List D) := fun ρ => (f ρ).bind fun t ρ₁ => match t.val with
 | .list ds => .ok (Uv ds) ρ₁
 | .tup ds => .ok (Uv ds) ρ₁
 | _ => .stuck
set_option tactic.hygienic true in
theorem DQ {G : Gd} {k : Nat} {sc : Scope} {es : List Expr} {n : Nat} {tp p pos : Pos} {e : Expr} {f : AEnv → Res T} (hq : G.quiet = true) (hn : Sim G k sc (.Name "enumerate" p) (Qb (.glob (.type "enumerate")))) (h : Sim G k sc e f) (hu : QO e = true) :
  Vo G k sc (.Tuple es n tp) (.Call (.Name "enumerate" p) [e] [] pos) (Bu f) := by
 intro cx ok ρ S s r Q E out
 show wpAny G.M cx.A (do callWith pos (← eval (.Name "enumerate" p) cx.env) [] (backTo pos (starEach [e] cx.env)) []) _ E s
 refine wpAny_bind (hn cx ok ρ S s r _ _ ?_)
 intro v h₀ t₀ S₀ r₀ j₀ x₀ v₀
 have hv : v = .type "enumerate" := by cases j₀; rfl
 subst hv
 refine UT (fun a q => by cases q) (Ur [e] (by simp [hu])) (Zy (by simp [hu]) ?_)
 rw [Yi hu]
 refine wpAny_bind ((h cx ok ρ S₀ { s with heap := h₀, toks := t₀ } r₀).shared _ _ ?_)
 refine Dq.stepS (s := s) (tg := .Tuple es n tp) out x₀ fun t ρ₁ out v h₁ t₁ S₁ r₁ j₁ x₁ v₁ => ?_
 refine wpAny_bind (wpAny_pure (wpAny_bind (wpAny_holding (wpAny_pure (wpAny_pure ?_)))))
 have xx := x₀.trans x₁
 have nw : ∀ b ∈ [h₁.objs.size + 1, h₁.objs.size], s.heap.get? b = none := fun b hb => by
  refine xx.none (Heap.get?_none_of_le ?_)
  rcases List.mem_cons.mp hb with rfl | hb
  ·exact Nat.le_succ _
  ·rw [List.mem_singleton.mp hb]; exact Nat.le_refl _
 have ne : h₁.objs.size + 1 ≠ h₁.objs.size := Nat.succ_ne_self _
 split at out
 ·rename_i ds e
  rw [e] at j₁
  cases j₁ with
  | list hs e1 e2 e3 q =>
   rename_i a o vs m
   have ha := Heap.lt_size e1
   refine call_enumerate_list (s := { s with heap := h₁, toks := t₁ }) ⟨o, e1, e2.1, m, e3⟩ fun h₂ he hit hz hk => ?_
   obtain ⟨r₂, x₂, v₂⟩ := r₁.keepsE hk
   refine wpAny_pyIter_enum he ?_
   exact out _ [h₁.objs.size + 1, h₁.objs.size] _ S₁ h₂ t₁ r₂ (Dw (ok.hd hq) ne (Nat.ne_of_lt (Nat.lt_succ_of_lt ha)) (Nat.ne_of_lt ha) ds) ⟨⟨_, he⟩, hit, o, vs, m, hk _ _ e1, e2.1, e3, q.ext x₂, fun _ => hs⟩ nw (xx.trans x₂) (((v₀ rfl).trans (v₁ rfl)).trans v₂)
 ·rename_i ds e
  rw [e] at j₁
  cases j₁ with
  | tup e1 e2 e3 q =>
   rename_i a o vs m
   have ha := Heap.lt_size e1
   refine UL (s := { s with heap := h₁, toks := t₁ }) ⟨o, e1, e2, m, e3⟩ fun h₂ he hit hk => ?_
   obtain ⟨r₂, x₂, v₂⟩ := r₁.keepsE hk
   refine wpAny_pyIter_enum he ?_
   exact out _ [h₁.objs.size + 1, h₁.objs.size] _ S₁ h₂ t₁ r₂ (D8 (ok.hd hq) ne (Nat.ne_of_lt (Nat.lt_succ_of_lt ha)) (Nat.ne_of_lt ha) ds) ⟨⟨_, he⟩, hit, o, vs, m, hk _ _ e1, e2, e3, q.ext x₂, fun q => absurd q (by decide)⟩ nw (xx.trans x₂) (((v₀ rfl).trans (v₁ rfl)).trans v₂)
 ·exact out.elim
end Mine
end

section
set_option Elab.async false
set_option maxRecDepth 100000
namespace Mine
open PySem PyProof.Rows
noncomputable def J8 (h : Heap) (X : List Addr) : Heap := { h with objs := h.objs.mapIdx fun i o => if i ∈ X then { o with data := .freed } else o }
theorem ZK (h : Heap) (X : List Addr) (a : Addr) : (J8 h X).get? a = if a ∈ X then none else h.get? a := by
 unfold J8 Heap.get?
 simp only [Array.getElem?_mapIdx]
 cases h.objs[a]? with
 | none => simp
 | some o =>
  by_cases hx : a ∈ X
  ·simp [hx]
  ·simp [hx]
theorem Ch {h : Heap} {X : List Addr} {a : Addr} {o : Obj} (e : (J8 h X).get? a = some o) : a ∉ X ∧ h.get? a = some o := by
 rw [ZK] at e
 split at e
 ·cases e
 ·exact ⟨by assumption, e⟩
structure After (X : List Addr) (S : Addr → Prop) (h : Heap) (S' : Addr → Prop) (h' : Heap) : Prop where
 keep : ∀ b o, b ∉ X → h.get? b = some o → Kept h' b o
 dom : ∀ b ∈ X, ∃ o, h'.get? b = some o
 shape : ∀ b ∈ X, ∃ o, h.get? b = some o ∧ ZD o
 sub : ∀ b, S b → S' b
 new : ∀ b, S' b → S b ∨ b ∈ X ∨ h.get? b = none
 sdom : Ve S' h'
section
variable {X : List Addr} {S S' S'' : Addr → Prop} {h h' h'' : Heap}
theorem After.exact (k : After X S h S' h') {b : Addr} {o : Obj} (e : h.get? b = some o) (hi : ¬ ZD o) (hn : Ym o) : h'.get? b = some o := by
 have hb : b ∉ X := fun m => by obtain ⟨o', e', q⟩ := k.shape b m; rw [e] at e'; cases e'; exact hi q
 obtain ⟨sl, e', q⟩ := k.keep b o hb e
 rw [q hn] at e'; exact e'
theorem After.domAll (k : After X S h S' h') {b : Addr} {o : Obj} (e : h.get? b = some o) : ∃ o', h'.get? b = some o' := by
 by_cases hb : b ∈ X
 ·exact k.dom b hb
 ·obtain ⟨sl, e', _⟩ := k.keep b o hb e; exact ⟨_, e'⟩
theorem Yx {o : Obj} {vs : Array Value} {n : Nat} (hd : o.data = .seq vs n) : ¬ ZD o := fun ⟨_, _, _, _, _, _, q⟩ => by rw [hd] at q; cases q
theorem Y4 {o : Obj} {v : Option Value} (hd : o.data = .cell v) : ¬ ZD o := fun ⟨_, _, _, _, _, _, q⟩ => by rw [hd] at q; cases q
theorem Zg {o : Obj} {es : Array DictEntry} {n : Nat} (hd : o.data = .dict es n) : ¬ ZD o := fun ⟨_, _, _, _, _, _, q⟩ => by rw [hd] at q; cases q
theorem After.carry (k : After X S h S' h') : Carry S h S' h' where
 tup := fun e hc hd => k.exact e (Yx hd) (.seq hd)
 list := fun hs e hc hd => ⟨k.sub _ hs, k.exact e (Yx hd) (.seq hd)⟩
 range := fun e => k.exact e (fun ⟨_, _, q1, _, _, q4, _⟩ => by cases q1; exact q4 rfl) (.fields rfl)
 exc := fun e hc hn hd r => .exc (k.exact e (fun ⟨_, _, q1, _⟩ => by rw [hc] at q1; cases q1) (.fields hd)) hc hn hd r
 dom := fun a o e' => k.domAll e'
 obj := fun s1 s2 e n => ⟨k.sub _ s1, k.sub _ s2, k.exact e (fun ⟨_, _, q1, _⟩ => by cases q1) (fun es m q => by cases q), by
  obtain ⟨o, es, ep, ho, hd, r⟩ := n
  have hb : _ ∉ X := fun q => by obtain ⟨o', e', q⟩ := k.shape _ q; rw [ho] at e'; cases e'; exact Zg hd q
  obtain ⟨sl, e', _⟩ := k.keep _ o hb ho
  exact ⟨_, es, ep, e', hd, r⟩⟩
theorem RV.after (k : After X S h S' h') {v : Value} {d : D} (q : RV S h v d) : RV S' h' v d := q.map k.carry
theorem After.ns (k : After X S h S' h') {a : Addr} {m : Str → Option Value} (n : h.Ns a m) : h'.Ns a m := by
 obtain ⟨o, es, ep, ho, hd, r⟩ := n
 have hb : a ∉ X := fun q => by obtain ⟨o', e', q⟩ := k.shape a q; rw [ho] at e'; cases e'; exact Zg hd q
 obtain ⟨sl, e', _⟩ := k.keep a o hb ho
 exact ⟨_, es, ep, e', hd, r⟩
theorem After.cell (k : After X S h S' h') {c : Addr} {v : Option Value} (n : h.IsCell c v) : h'.IsCell c v := by
 obtain ⟨o, ho, hd⟩ := n
 exact ⟨o, k.exact ho (Y4 hd) (fun es n q => by rw [hd] at q; cases q), hd⟩
theorem After.ownV (k : After X S h S' h') {a : Addr} {d : D} (q : UB S h a d) : UB S' h' a d :=
 q.map k.carry fun o e hd => k.keep a o (fun m => by
  obtain ⟨o', e', q⟩ := k.shape a m
  rw [e] at e'; cases e'
  rcases hd with ⟨_, _, hd⟩ | ⟨_, _, hd⟩
  ·exact Yx hd q
  ·exact Zg hd q) e
theorem After.notS (k : After X S h S' h') {a : Addr} {o : Obj} (e : h.get? a = some o) (hi : ¬ ZD o) (hs : ¬ S a) : ¬ S' a := fun q => by
 rcases k.new a q with q | q | q
 ·exact hs q
 ·obtain ⟨o', e', q⟩ := k.shape a q; rw [e] at e'; cases e'; exact hi q
 ·rw [e] at q; cases q
end
section
variable {G : Gd} {cx : Cx} {sc : Scope} {ρ : AEnv} {X : List Addr} {S S' : Addr → Prop} {h h' : Heap}
theorem Rel.after (r : Rel G cx sc ρ S h) (k : After X S h S' h') (hb : G.B.StaysIn h') (new : ∀ b ∈ X, cx.h₀.get? b = none) : Rel G cx sc ρ S' h' ∧ QA cx.env h h' := by
 have same : QA cx.env h h' := fun y w q => by
  rcases q with ⟨a, m₁, b, c⟩ | ⟨a, c, b, d⟩
  ·exact .inl ⟨a, m₁, k.ns b, c⟩
  ·exact .inr ⟨a, c, b, k.cell d⟩
 have hf : ∀ y w, Var cx.env h' y w → Var cx.env h y w := fun y w q => by
  rcases q with ⟨a, m₁, b, c⟩ | ⟨a, c, b, d⟩
  ·obtain ⟨m₀, n₀⟩ := r.ns
   exact .inl ⟨a, m₀, n₀, by rw [(k.ns n₀).agree b y]; exact c⟩
  ·obtain ⟨w₀, n₀⟩ := r.cells y c b
   exact .inr ⟨a, c, b, by rw [IsCell.inj d (k.cell n₀)]; exact n₀⟩
 refine ⟨⟨hb, fun b o q => ?_, fun env he => ?_, let ⟨m, n⟩ := r.ns; ⟨m, k.ns n⟩, fun y c q => let ⟨w, n⟩ := r.cells y c q; ⟨w, k.cell n⟩, k.sdom, fun b q => ?_, ?_, fun y c e => ?_, fun y b hdy q => let ⟨o, eo⟩ := r.live y b hdy (hf y _ q); k.domAll eo, r.clean, fun v q => let ⟨C, e⟩ := r.hok v q; ⟨C, e.after k⟩, fun j y u hy hu => ?_, fun j l y z m m' d d' u hy hz hj hl a b => r.inj j l y z m m' d d' u hy hz hj hl (hf y _ a) (hf z _ b), r.dok.back hf⟩, same⟩
 ·obtain ⟨sl, q₁, k₁⟩ := r.keep b o q
  obtain ⟨sl', q₂, k₂⟩ := k.keep b _ (fun m => by rw [new b m] at q; cases q) q₁
  exact ⟨sl', q₂, fun hn => (k₂ hn).trans (k₁ hn)⟩
 ·obtain ⟨p, L, o, b, c, d, es, n, q⟩ := r.ff env he
  have hL : L ∉ X := fun m => by obtain ⟨o', e', q'⟩ := k.shape L m; rw [d] at e'; cases e'; exact Zg q q'
  obtain ⟨sl', q₂, k₂⟩ := k.keep L o hL d
  exact ⟨p, L, _, b, c, q₂, es, n, q⟩
 ·rcases k.new b q with q | q | q
  ·exact r.sok b q
  ·exact .inr (new b q)
  ·exact .inr (r.keep.none q)
 ·obtain ⟨m, o, es, ep, e, hd, _⟩ := r.ns
  exact k.notS e (Zg hd) r.sloc
 ·obtain ⟨w, o, e', hd⟩ := r.cells y c e
  exact k.notS e' (Y4 hd) (r.scell y c e)
 ·obtain ⟨w, hw', tw⟩ := r.vars j y u hy hu
  refine ⟨w, same y w hw', ?_⟩
  cases u with
  | sh d => exact RV.after k tw
  | ow m d =>
   obtain ⟨b, rfl, n1, ow, n2⟩ := tw
   obtain ⟨o, ho, hd⟩ := ow.live
   exact ⟨b, rfl, k.notS ho (hd.elim (fun ⟨_, _, hd⟩ => Yx hd) fun ⟨_, _, hd⟩ => Zg hd) n1, k.ownV ow, n2⟩
end
noncomputable def QB (csc sc : Scope) : Scope := { csc with names := csc.names.map fun (n, k) => if (k == .free && sc.kind == .function && sc.names.lookup n == some .cell) then (n, .cell) else (n, k) }
theorem CS {csc sc : Scope} {env : Env} (h : env.scope = sc) : relabel csc env = QB csc sc := by
 unfold relabel QB Env.kindOf
 rw [h]
noncomputable def UM : List Str → Bool
 | [] => true
 | x :: r => !r.contains x && UM r
theorem X3 : ∀ {l : List Str}, UM l = true → l.Nodup
 | [], _ => .nil
 | x :: r, h => by
  rw [UM, Bool.and_eq_true_iff] at h
  exact List.nodup_cons.mpr ⟨by simpa using h.1, X3 h.2⟩
noncomputable def JV (sc csc : Scope) : Bool := csc.kind == .function && UM (csc.names.map (·.1)) && csc.names.all fun x => x.2 != .free || ((Qg sc).contains x.1 && (sc.names.lookup x.1 == some .cell || sc.names.lookup x.1 == some .free))
theorem Jw {α : Type} : ∀ {l : List (Str × α)} {x : Str} {k : α}, (l.map (·.1)).Nodup → (x, k) ∈ l → l.lookup x = some k
 | (y, j) :: r, x, k, nd, h => by
  have nd' : y ∉ r.map (·.1) ∧ (r.map (·.1)).Nodup := by simpa using nd
  rw [List.lookup_cons]
  rcases List.mem_cons.mp h with e | hr
  ·cases e; simp
  ·have : (x == y) = false := by
    rw [beq_eq_false_iff_ne]
    rintro rfl
    exact nd'.1 (List.mem_map.mpr ⟨(x, k), hr, rfl⟩)
   rw [this]
   exact Jw nd'.2 hr
theorem Wn {α : Type} (f : Str → α → α) (x : Str) : ∀ (l : List (Str × α)), (l.map fun p => (p.1, f p.1 p.2)).lookup x = (l.lookup x).map (f x)
 | [] => rfl
 | (n, k) :: r => by
  rw [List.map_cons, List.lookup_cons, List.lookup_cons]
  cases hx : x == n with
  | true => rw [beq_iff_eq.mp hx]; rfl
  | false => exact Wn f x r
theorem UA {csc sc : Scope} {x : Str} : (QB csc sc).names.lookup x = (csc.names.lookup x).map fun k => if (k == .free && sc.kind == .function && sc.names.lookup x == some .cell) then .cell else k := by
 have e : (QB csc sc).names = csc.names.map fun p => (p.1, (fun n k => if (k == NameKind.free && sc.kind == .function && sc.names.lookup n == some .cell) then NameKind.cell else k) p.1 p.2) := by
  unfold QB
  apply List.map_congr_left
  intro p _
  obtain ⟨n, k⟩ := p
  simp only
  split <;> rfl
 rw [e]
 exact Wn (fun n k => if (k == NameKind.free && sc.kind == .function && sc.names.lookup n == some .cell) then NameKind.cell else k) x csc.names
theorem UO {sc : Scope} (h : (sc.names.map (·.1)).Nodup) : (Qg sc).Nodup := by
 unfold Qg
 exact h.sublist (List.Sublist.map _ List.filter_sublist)
theorem W1 (csc sc : Scope) : (QB csc sc).names.map (·.1) = csc.names.map (·.1) := by
 unfold QB
 simp only [List.map_map]
 apply List.map_congr_left
 intro x _
 simp only [Function.comp]
 split <;> rfl
noncomputable def Jm (env : Env) : List (Str × NameKind) → List (Str × Addr) → List (Str × Addr)
 | [], acc => acc
 | (n, k) :: r, acc => if k == .free then (match env.cells.lookup n with | some c => Jm env r ((n, c) :: acc) | none => Jm env r acc) else Jm env r acc
theorem Vh {csc : Scope} {env : Env} (h : ∀ x ∈ csc.names, x.2 = .free → ∃ c, env.cells.lookup x.1 = some c) : closureFor csc env = pure (Jm env csc.names []) := by
 have key : ∀ (l : List (Str × NameKind)) (acc : List (Str × Addr)), (∀ x ∈ l, x.2 = .free → ∃ c, env.cells.lookup x.1 = some c) →
   (forIn l acc fun x r => match x with | (name, kind) => if kind == .free then (do let a ← cellOf env name; pure (ForInStep.yield ((name, a) :: r))) else pure (ForInStep.yield r) : Sem (List (Str × Addr))) = pure (Jm env l acc) := by
  intro l
  induction l with
  | nil => intro acc _; rfl
  | cons x r ih =>
   intro acc hl
   obtain ⟨n, k⟩ := x
   rw [List.forIn_cons, Jm]
   by_cases hk : k == .free
   ·obtain ⟨c, hc⟩ := hl (n, k) (.head _) (beq_iff_eq.mp hk)
    simp only [hk, if_true]
    have : cellOf env n = pure c := by unfold cellOf; simp only at hc; rw [hc]
    rw [this]
    simp only [hc]
    rw [pure_bind, pure_bind]
    exact ih _ fun y hy => hl y (.tail _ hy)
   ·simp only [hk, Bool.false_eq_true, if_false]
    rw [pure_bind]
    exact ih _ fun y hy => hl y (.tail _ hy)
 unfold closureFor
 have := key csc.names [] h
 simp only [bind_pure] 
 exact this
set_option tactic.hygienic true in
theorem Zz {env : Env} : ∀ {l : List (Str × NameKind)} {acc : List (Str × Addr)} {x : Str} {c : Addr}, (Jm env l acc).lookup x = some c → env.cells.lookup x = some c ∨ acc.lookup x = some c
 | [], _, _, _, h => .inr h
 | (n, k) :: r, acc, x, c, h => by
  rw [Jm] at h
  split at h
  ·split at h
   ·rename_i c' hc
    rcases Zz h with q | q
    ·exact .inl q
    ·rw [List.lookup_cons] at q
     cases hx : x == n with
     | true => rw [hx] at q; cases q; rw [beq_iff_eq.mp hx]; exact .inl hc
     | false => rw [hx] at q; exact .inr q
   ·exact Zz h
  ·exact Zz h
set_option tactic.hygienic true in
theorem JP {env : Env} : ∀ {l : List (Str × NameKind)} {acc : List (Str × Addr)} {x : Str} {c : Addr}, (Jm env l acc).lookup x = some c → (x, .free) ∈ l ∨ ∃ c', acc.lookup x = some c'
 | [], _, _, _, h => .inr ⟨_, h⟩
 | (n, k) :: r, acc, x, c, h => by
  rw [Jm] at h
  split at h
  ·rename_i hk
   split at h
   ·rcases JP h with q | ⟨c', q⟩
    ·exact .inl (.tail _ q)
    ·rw [List.lookup_cons] at q
     cases hx : x == n with
     | true => rw [beq_iff_eq.mp hx, ← beq_iff_eq.mp hk]; exact .inl (.head _)
     | false => rw [hx] at q; exact .inr ⟨_, q⟩
   ·rcases JP h with q | q
    ·exact .inl (.tail _ q)
    ·exact .inr q
  ·rcases JP h with q | q
   ·exact .inl (.tail _ q)
   ·exact .inr q
set_option tactic.hygienic true in
theorem Jh {env : Env} {x : Str} {c : Addr} (hc : env.cells.lookup x = some c) : ∀ {l : List (Str × NameKind)} {acc : List (Str × Addr)}, ((x, .free) ∈ l ∨ acc.lookup x = some c) → (Jm env l acc).lookup x = some c
 | [], _, h => h.elim (fun q => by cases q) id
 | (n, k) :: r, acc, h => by
  rw [Jm]
  by_cases hx : x = n
  ·subst hx
   split
   ·rw [hc]
    exact Jh hc (.inr (by simp))
   ·rename_i hk
    refine Jh hc ?_
    rcases h with h | h
    ·rcases List.mem_cons.mp h with e | h
     ·cases e; exact absurd rfl hk
     ·exact .inl h
    ·exact .inr h
  ·have h' : (x, NameKind.free) ∈ r ∨ acc.lookup x = some c := h.imp (fun h => by
    rcases List.mem_cons.mp h with e | h
    ·cases e; exact absurd rfl hx
    ·exact h) id
   have hb : (x == n) = false := by simpa using hx
   split
   ·split
    ·exact Jh hc (h'.imp id fun q => by rw [List.lookup_cons, hb]; exact q)
    ·exact Jh hc h'
   ·exact Jh hc h'
set_option tactic.hygienic true in
theorem YJ : ∀ {l : List (Str × NameKind)} {n : Nat} {acc : List (Str × Addr)} {x : Str} {c : Addr}, (cellsFrom n l acc).lookup x = some c → (n ≤ c ∧ (x, .cell) ∈ l) ∨ acc.lookup x = some c
 | [], _, _, _, _, h => .inr h
 | (y, k) :: r, n, acc, x, c, h => by
  unfold cellsFrom at h
  split at h
  ·rename_i hk
   rcases YJ h with ⟨q, m⟩ | q
   ·exact .inl ⟨Nat.le_of_succ_le q, .tail _ m⟩
   ·rw [List.lookup_cons] at q
    cases hx : x == y with
    | true => rw [hx] at q; cases q; rw [beq_iff_eq.mp hx, ← beq_iff_eq.mp hk]; exact .inl ⟨Nat.le_refl _, .head _⟩
    | false => rw [hx] at q; exact .inr q
  ·rcases YJ h with ⟨q, m⟩ | q
   ·exact .inl ⟨q, .tail _ m⟩
   ·exact .inr q
set_option tactic.hygienic true in
theorem JZ : ∀ {l : List (Str × NameKind)} {n : Nat} {acc : List (Str × Addr)} {x : Str}, (∀ k, (x, k) ∈ l → k ≠ .cell) → (cellsFrom n l acc).lookup x = acc.lookup x
 | [], _, _, _, _ => rfl
 | (y, k) :: r, n, acc, x, h => by
  unfold cellsFrom
  split
  ·rename_i hk
   rw [JZ fun k' m => h k' (.tail _ m), List.lookup_cons]
   have : (x == y) = false := by
    rw [beq_eq_false_iff_ne]
    rintro rfl
    exact h k (.head _) (beq_iff_eq.mp hk)
   rw [this]
  ·exact JZ fun k' m => h k' (.tail _ m)
theorem U8 {M : Model} {A : Around} {E : Value → Shared → Prop} {s : Shared} {csc : Scope} {gl : Addr} {cl : List (Str × Addr)} {q : Str} {env : Env} {Q : Env → Shared → Prop}
  (h : Q { scope := csc, locals := s.heap.objs.size, globals := gl, cells := cellsFrom (s.heap.objs.size + 1) csc.names cl, qual := q, func := none, code := env.code, frame := env.frame, builtins := env.builtins } { s with heap := pushCells (s.heap.push { cls := .type "dict", data := .dict #[] }) csc.names }) :
  wpAny M A (newFunctionEnv csc gl cl [] q none .none (some env)) Q E s := by
 simp only [newFunctionEnv, Option.isSome_some, if_true]
 refine wpAny_bind (wpAny_alloc ?_)
 refine wpAny_bind (wpAny_layCells _ (fun name kind cells => by cases hkc : kind == NameKind.cell <;> simp [hkc]) _ _ _ _ ?_)
 rw [show ({ s with heap := s.heap.push { cls := .type "dict", data := .dict #[] } } : Shared).heap.objs.size = s.heap.objs.size + 1 from Heap.size_push ..]
 rw [List.forIn_nil]
 exact wpAny_bind (wpAny_pure (wpAny_pure h))
end Mine
end

section
set_option Elab.async false
set_option maxRecDepth 100000
namespace Mine
open PySem PyProof.Rows
noncomputable def T.weak : T → T
 | .sh d => .sh d
 | .ow _ d => .ow false d
noncomputable def U0 (sc csc : Scope) (ρ : AEnv) (x : Str) : Option (Option T) :=
 if csc.names.lookup x == some .free then (match (Qg sc).findIdx? (· == x) with
  | some i => (match ρ[i]? with | some (some t) => some (some t.weak) | _ => none)
  | none => none) else some none
noncomputable def KV (sc csc : Scope) (ρ : AEnv) : List Str → Option AEnv
 | [] => some []
 | x :: r => match U0 sc csc ρ x, KV sc csc ρ r with
  | some t, some ts => some (t :: ts)
  | _, _ => none
set_option tactic.hygienic true in
theorem Bm {sc csc : Scope} {ρ : AEnv} : ∀ {l : List Str} {ρ₀ : AEnv}, KV sc csc ρ l = some ρ₀ → ∀ {j : Nat} {x : Str} {u : Option T}, l[j]? = some x → ρ₀[j]? = some u → U0 sc csc ρ x = some u
 | [], _, _, _, _, _, h, _ => by simp at h
 | y :: r, ρ₀, e, j, x, u, hx, hu => by
  rw [KV] at e
  split at e
  ·rename_i t ts h1 h2
   cases e
   cases j with
   | zero => simp at hx hu; subst hx; subst hu; exact h1
   | succ j => exact Bm h2 (by simpa using hx) (by simpa using hu)
  ·cases e
set_option tactic.hygienic true in
theorem BJ {sc csc : Scope} {ρ : AEnv} : ∀ {l : List Str} {ρ₀ : AEnv}, KV sc csc ρ l = some ρ₀ → ∀ {x : Str}, x ∈ l → ∃ u, U0 sc csc ρ x = some u
 | [], _, _, _, h => by cases h
 | y :: r, ρ₀, e, x, hx => by
  rw [KV] at e
  split at e
  ·rename_i t ts h1 h2
   rcases List.mem_cons.mp hx with rfl | hx
   ·exact ⟨_, h1⟩
   ·exact BJ h2 hx
  ·cases e
set_option tactic.hygienic true in
theorem KU {sc csc : Scope} {ρ : AEnv} {x : Str} {t : T} (h : U0 sc csc ρ x = some (some t)) : csc.names.lookup x = some .free ∧ ∃ (i : Nat) (t₀ : T), (Qg sc)[i]? = some x ∧ ρ[i]? = some (some t₀) ∧ t = t₀.weak := by
 unfold U0 at h
 split at h
 ·rename_i hf
  refine ⟨beq_iff_eq.mp hf, ?_⟩
  split at h
  ·rename_i i hi
   split at h
   ·rename_i t₀ ht
    cases h
    obtain ⟨h1, h2, _⟩ := List.findIdx?_eq_some_iff_getElem.mp hi
    exact ⟨i, t₀, by rw [List.getElem?_eq_getElem h1]; exact congrArg some (beq_iff_eq.mp h2), ht, rfl⟩
   ·cases h
  ·cases h
 ·cases h
theorem B5 {sc csc : Scope} {ρ : AEnv} {x : Str} {u : Option T} (h : U0 sc csc ρ x = some u) (hf : csc.names.lookup x = some .free) : ∃ t, u = some t := by
 unfold U0 at h
 rw [if_pos (by rw [hf]; rfl)] at h
 split at h
 ·split at h
  ·cases h; exact ⟨_, rfl⟩
  ·cases h
 ·cases h
noncomputable def Ze (csc : Scope) (env : Env) (C : Addr) : List (Str × Addr) := cellsFrom (C + 1) csc.names (Jm env csc.names [])
noncomputable def Jt (csc sc : Scope) (env : Env) (C : Addr) : Env := { scope := QB csc sc, locals := C, globals := env.globals, cells := Ze csc env C, qual := env.qual, func := none, code := env.code, frame := env.frame, builtins := env.builtins }
noncomputable def Ki (csc : Scope) (env : Env) (C : Addr) : List Addr := ((Ze csc env C).filter fun p => decide (C < p.2)).map (·.2)
noncomputable def K5 (cx : Cx) (csc sc : Scope) (C : Addr) (wr : List Addr) (S : Addr → Prop) (h : Heap) : Cx := { A := cx.A, env := Jt csc sc cx.env C, fs := cx.fs, h₀ := J8 h (wr ++ C :: Ki csc cx.env C), P := S }
structure CI (G : Gd) (cx : Cx) (sc csc : Scope) (S₁ : Addr → Prop) (h₁ : Heap) (wr : List Addr) (C : Addr) (S : Addr → Prop) (h : Heap) : Prop where
 aft : After wr S₁ h₁ S h
 base : G.B.StaysIn h
 ns : ∃ m, h.Ns C m
 cells : ∀ x c, (Ze csc cx.env C).lookup x = some c → ∃ v, h.IsCell c v
 sloc : ¬ S C
 scell : ∀ x c, (Ze csc cx.env C).lookup x = some c → ¬ S c
 live : ∀ x a, Xn x = false → Var (Jt csc sc cx.env C) h x (.ref a) → ∃ o, h.get? a = some o
theorem Vb {lo : Nat} {l : List (Str × NameKind)} : ∀ {n : Nat} {acc : List (Str × Addr)}, (∀ x c, acc.lookup x = some c → c < n) → (∀ x y c, lo ≤ c → acc.lookup x = some c → acc.lookup y = some c → x = y) → ∀ x y c, lo ≤ c → (cellsFrom n l acc).lookup x = some c → (cellsFrom n l acc).lookup y = some c → x = y := by
 induction l with
 | nil => intro n acc _ h; exact h
 | cons zk r ih =>
  intro n acc hb h
  obtain ⟨z, k⟩ := zk
  unfold cellsFrom
  split
  ·refine ih (fun x c q => ?_) fun x y c hc qx qy => ?_
   ·rw [List.lookup_cons] at q
    cases hx : x == z with
    | true => rw [hx] at q; cases q; exact Nat.lt_succ_self _
    | false => rw [hx] at q; exact Nat.lt_succ_of_lt (hb x c q)
   ·rw [List.lookup_cons] at qx qy
    cases hx : x == z <;> cases hy : y == z <;> rw [hx] at qx <;> rw [hy] at qy
    ·exact h x y c hc qx qy
    ·cases qy; exact absurd (hb x _ qx) (Nat.lt_irrefl _)
    ·cases qx; exact absurd (hb y _ qy) (Nat.lt_irrefl _)
    ·rw [beq_iff_eq.mp hx, beq_iff_eq.mp hy]
  ·exact ih hb h
section
variable {G : Gd} {cx : Cx} {sc csc : Scope} {ρ₁ ρ₀ : AEnv} {S₁ S S' : Addr → Prop} {h₁ h h' : Heap} {wr : List Addr} {C : Addr} {k : Nat}
structure CG (G : Gd) (cx : Cx) (sc csc : Scope) (ρ₁ : AEnv) (S₁ : Addr → Prop) (h₁ : Heap) (wr : List Addr) (C : Addr) (ρ₀ : AEnv) : Prop where
 hsc : cx.env.scope = sc
 r : Rel G cx sc ρ₁ S₁ h₁
 new : ∀ b ∈ wr, cx.h₀.get? b = none ∧ G.B.get? b = none
 hC : h₁.objs.size ≤ C
 ok : JV sc csc = true
 cap : KV sc csc ρ₁ (Qg (QB csc sc)) = some ρ₀
theorem CG.nodup (g : CG G cx sc csc ρ₁ S₁ h₁ wr C ρ₀) : (csc.names.map (·.1)).Nodup := by
 have := g.ok
 unfold JV at this
 simp only [Bool.and_eq_true] at this
 exact X3 this.1.2
theorem CG.kind (g : CG G cx sc csc ρ₁ S₁ h₁ wr C ρ₀) : csc.kind = .function := by
 have := g.ok
 unfold JV at this
 simp only [Bool.and_eq_true, beq_iff_eq] at this
 exact this.1.1
theorem CG.free (g : CG G cx sc csc ρ₁ S₁ h₁ wr C ρ₀) {x : Str} (h : (x, .free) ∈ csc.names) : x ∈ Qg sc ∧ (sc.names.lookup x = some .cell ∨ sc.names.lookup x = some .free) := by
 have := g.ok
 unfold JV at this
 simp only [Bool.and_eq_true] at this
 have := List.all_eq_true.mp this.2 _ h
 simpa using this
theorem Yw {α : Type} {l : List (Str × α)} {n : Str} {c : α} (h : l.lookup n = some c) : (n, c) ∈ l := mem_of_lookup h
theorem CG.taken (g : CG G cx sc csc ρ₁ S₁ h₁ wr C ρ₀) {x : Str} (hf : csc.names.lookup x = some .free) : ∃ (c : Addr) (v : Value) (i : Nat) (t : T), cx.env.cells.lookup x = some c ∧ (Ze csc cx.env C).lookup x = some c ∧ h₁.IsCell c (some v) ∧ (Qg sc)[i]? = some x ∧ ρ₁[i]? = some (some t) ∧ Dz cx.h₀ S₁ h₁ v t ∧ (cx.env.kindOf x = some .cell ∨ cx.env.kindOf x = some .free) := by
 have hm := Yw hf
 obtain ⟨hv, hk⟩ := g.free hm
 have hx' : x ∈ Qg (QB csc sc) := by
  have : (x, if (NameKind.free == .free && sc.kind == .function && sc.names.lookup x == some .cell) then NameKind.cell else .free) ∈ (QB csc sc).names := by
   unfold QB
   refine List.mem_map.mpr ⟨(x, .free), hm, ?_⟩
   simp only
   split <;> rfl
  unfold Qg
  refine List.mem_map.mpr ⟨_, List.mem_filter.mpr ⟨this, ?_⟩, rfl⟩
  simp only
  split <;> rfl
 obtain ⟨u, hu⟩ := BJ g.cap hx'
 obtain ⟨t, rfl⟩ := B5 hu hf
 obtain ⟨_, i, t₀, hi, ht, rfl⟩ := KU hu
 obtain ⟨v, hvar, tv⟩ := g.r.vars i x t₀ hi ht
 have hkk : cx.env.kindOf x = sc.names.lookup x := by unfold Env.kindOf; rw [g.hsc]
 rcases hvar with ⟨a, _⟩ | ⟨a, c, b, d⟩
 ·rw [hkk] at a
  rcases hk with q | q <;> (rw [q] at a; cases a)
 ·refine ⟨c, v, i, t₀, b, ?_, d, hi, ht, tv, a⟩
  unfold Ze
  rw [JZ (fun kk m q => by
   subst q
   have := Jw g.nodup m
   rw [hf] at this; cases this)]
  exact Jh b (.inl hm)
theorem CG.cellOf (g : CG G cx sc csc ρ₁ S₁ h₁ wr C ρ₀) {x : Str} {c : Addr} (hc : (Ze csc cx.env C).lookup x = some c) : (C < c ∧ (x, .cell) ∈ csc.names) ∨ (csc.names.lookup x = some .free ∧ cx.env.cells.lookup x = some c ∧ c < h₁.objs.size) := by
 unfold Ze at hc
 rcases YJ hc with ⟨q, m⟩ | q
 ·exact .inl ⟨q, m⟩
 ·right
  have hl : cx.env.cells.lookup x = some c := by
   rcases Zz q with q | q
   ·exact q
   ·cases q
  have hm : (x, .free) ∈ csc.names := by
   rcases JP q with q | ⟨_, q⟩
   ·exact q
   ·cases q
  refine ⟨Jw g.nodup hm, hl, ?_⟩
  obtain ⟨v, o, e, _⟩ := g.r.cells x c hl
  exact Heap.lt_size e
theorem CG.notX (g : CG G cx sc csc ρ₁ S₁ h₁ wr C ρ₀) {b : Addr} {o : Obj} (e : h₁.get? b = some o) (hb : b ∉ wr) : b ∉ wr ++ C :: Ki csc cx.env C := by
 have hlt := Heap.lt_size e
 have hC := g.hC
 intro m
 rcases List.mem_append.mp m with m | m
 ·exact hb m
 ·rcases List.mem_cons.mp m with rfl | m
  ·exact absurd hlt (Nat.not_lt.mpr hC)
  ·unfold Ki at m
   obtain ⟨p, hp, rfl⟩ := List.mem_map.mp m
   have := (List.mem_filter.mp hp).2
   simp only [decide_eq_true_eq] at this
   exact absurd (Nat.lt_of_lt_of_le hlt hC) (Nat.not_lt.mpr (Nat.le_of_lt this))
theorem CG.xNew (g : CG G cx sc csc ρ₁ S₁ h₁ wr C ρ₀) {b : Addr} (hb : b ∈ C :: Ki csc cx.env C) : h₁.get? b = none := by
 have hC := g.hC
 refine Heap.get?_none_of_le ?_
 rcases List.mem_cons.mp hb with rfl | m
 ·exact hC
 ·unfold Ki at m
  obtain ⟨p, hp, rfl⟩ := List.mem_map.mp m
  have := (List.mem_filter.mp hp).2
  simp only [decide_eq_true_eq] at this
  exact Nat.le_trans hC (Nat.le_of_lt this)
theorem CI.rel (g : CG G cx sc csc ρ₁ S₁ h₁ wr C ρ₀) (ci : CI G cx sc csc S₁ h₁ wr C S h) : Rel G (K5 cx csc sc C wr S h) (QB csc sc) ρ₀ S h := by
 obtain ⟨ro, same⟩ := g.r.after ci.aft ci.base fun b hb => (g.new b hb).1
 have nd' : (Qg (QB csc sc)).Nodup := UO (by rw [W1]; exact g.nodup)
 have kd : ∀ x, csc.names.lookup x = some .free → (Jt csc sc cx.env C).kindOf x = some .cell ∨ (Jt csc sc cx.env C).kindOf x = some .free := fun x hf => by
  show (QB csc sc).names.lookup x = _ ∨ (QB csc sc).names.lookup x = _
  rw [UA, hf, Option.map_some]
  split
  ·exact .inl rfl
  ·exact .inr rfl
 have got : ∀ (j : Nat) (x : Str) (t : T), (Qg (QB csc sc))[j]? = some x → ρ₀[j]? = some (some t) → csc.names.lookup x = some .free ∧ ∃ (i : Nat) (t₀ : T) (v : Value), (Qg sc)[i]? = some x ∧ ρ₁[i]? = some (some t₀) ∧ t = t₀.weak ∧ Var cx.env h x v ∧ Var (Jt csc sc cx.env C) h x v ∧ Dz cx.h₀ S h v t₀ := fun j x t hx ht => by
  have hu := Bm g.cap hx ht
  obtain ⟨hf, i, t₀, hi, ht₀, rfl⟩ := KU hu
  obtain ⟨c, v', i', t', hc, hcc, hcell, hi', ht', tv', hkk⟩ := g.taken hf
  obtain ⟨v, hv, tv⟩ := ro.vars i x t₀ hi ht₀
  have : Var cx.env h x v' := .inr ⟨hkk, c, hc, ci.aft.cell hcell⟩
  cases Var.inj hv this
  exact ⟨hf, i, t₀, _, hi, ht₀, rfl, hv, .inr ⟨kd x hf, c, hcc, ci.aft.cell hcell⟩, tv⟩
 refine { base := ci.base, keep := fun b o e => ⟨o.slots, (Ch e).2, fun _ => rfl⟩, ff := ro.ff, ns := ci.ns, cells := ci.cells, sdom := ci.aft.sdom, sok := fun b q => .inl q, sloc := ci.sloc, scell := ci.scell, live := ci.live, clean := fun j x m d hx hj => ?_, hok := ro.hok, vars := fun j x t hx ht => ?_, inj := fun j l x y m m' d d' v hx hy hj hl a b => ?_, dok := fun j x m ks ds hx hj hvx => ?_ }
 rotate_right
 ·obtain ⟨hf, _⟩ := got j x _ hx hj
  obtain ⟨c, v', i', t', hc, hcc, hcell, hi', ht', tv', hkk⟩ := g.taken hf
  cases Var.inj hvx (.inr ⟨kd x hf, c, hcc, ci.aft.cell hcell⟩)
  have : ∃ o, h₁.get? C = some o := by
   cases t' with
   | sh d => exact RV.live tv' _ rfl
   | ow m d => obtain ⟨a, e, _, ow, _⟩ := tv'; cases e; obtain ⟨o, ho, _⟩ := ow.live; exact ⟨o, ho⟩
  obtain ⟨o, ho⟩ := this
  exact absurd (Heap.lt_size ho) (Nat.not_lt.mpr g.hC)
 ·obtain ⟨_, i, t₀, v, hi, ht₀, e, _⟩ := got j x _ hx hj
  cases t₀ with
  | sh d => cases e
  | ow m₀ d₀ => exact g.r.clean i x m₀ d₀ hi ht₀
 ·obtain ⟨_, i, t₀, v, hi, ht₀, rfl, _, hv, tv⟩ := got j x t hx ht
  refine ⟨v, hv, ?_⟩
  cases t₀ with
  | sh d => exact tv
  | ow m d => obtain ⟨a, rfl, n1, ow, _⟩ := tv; exact ⟨a, rfl, n1, ow, fun q => by cases q⟩
 ·obtain ⟨_, i, t₀, v₁, hi, ht₀, e₁, hv₁, hw₁, _⟩ := got j x _ hx hj
  obtain ⟨_, i', t₀', v₂, hi', ht₀', e₂, hv₂, hw₂, _⟩ := got l y _ hy hl
  cases Var.inj a hw₁
  cases Var.inj b hw₂
  have : i = i' := by
   cases t₀ with
   | sh d => cases e₁
   | ow m₀ d₀ =>
    cases t₀' with
    | sh d => cases e₂
    | ow m₁ d₁ => exact ro.inj i i' x y m₀ m₁ d₀ d₁ _ hi hi' ht₀ ht₀' hv₁ hv₂
  subst this
  rw [hi] at hi'
  cases hi'
  obtain ⟨p1, e1⟩ := List.getElem?_eq_some_iff.mp hx
  obtain ⟨p2, e2⟩ := List.getElem?_eq_some_iff.mp hy
  exact (List.getElem_inj nd').mp (e1.trans e2.symm)
theorem CI.bh (g : CG G cx sc csc ρ₁ S₁ h₁ wr C ρ₀) (ci : CI G cx sc csc S₁ h₁ wr C S h) : G.B.StaysIn (K5 cx csc sc C wr S h).h₀ := fun b o e => by
 show (J8 h _).get? b = some o
 rw [ZK, if_neg (g.notX (g.r.base b o e) fun m => by rw [(g.new b m).2] at e; cases e)]
 exact ci.base b o e
theorem CI.ok (g : CG G cx sc csc ρ₁ S₁ h₁ wr C ρ₀) (ci : CI G cx sc csc S₁ h₁ wr C S h) (ok : CxOk G cx sc k) : CxOk G (K5 cx csc sc C wr S h) (QB csc sc) k := by
 obtain ⟨env, outer, e1, e2⟩ := ok.top
 exact { hsc := rfl, hk := g.kind, hg := ok.hg, hb := ok.hb, fr := ok.fr, top := ⟨env, outer, e1, e2⟩, hd := ok.hd, room := ok.room, nodup := UO (by rw [W1]; exact g.nodup), bh := ci.bh g }
theorem CI.fn (g : CG G cx sc csc ρ₁ S₁ h₁ wr C ρ₀) (ci : CI G cx sc csc S₁ h₁ wr C S h) : FnCx G (K5 cx csc sc C wr S h) where
 bh := ci.bh g
 lnew := by
  show (J8 h _).get? C = none
  rw [ZK, if_pos (List.mem_append.mpr (.inr (.head _)))]
 cap := fun x y c hx hy hn => by
  have own : C < c := by
   rcases g.cellOf hx with ⟨q, _⟩ | ⟨hf, hl, hlt⟩
   ·exact q
   ·exfalso
    obtain ⟨v, hcell⟩ := g.r.cells x c hl
    have hcell0 := hcell
    obtain ⟨o, e, hd⟩ := hcell0
    have : (J8 h (wr ++ C :: Ki csc cx.env C)).get? c = none := hn
    rw [ZK, if_neg (g.notX e fun m => by obtain ⟨o', e', q⟩ := ci.aft.shape c m; rw [e] at e'; cases e'; exact Y4 hd q)] at this
    obtain ⟨o', e', _⟩ := ci.aft.cell hcell
    rw [this] at e'; cases e'
  refine Vb (lo := C + 1) (fun z c' q => ?_) (fun z z' c' hc' q q' => ?_) x y c own hx hy
  ·rcases Zz q with q | q
   ·obtain ⟨v, o, e, _⟩ := g.r.cells z c' q
    exact Nat.lt_succ_of_lt (Nat.lt_of_lt_of_le (Heap.lt_size e) g.hC)
   ·cases q
  ·exfalso
   rcases Zz q with q | q
   ·obtain ⟨v, o, e, _⟩ := g.r.cells z c' q
    exact absurd (Nat.lt_of_lt_of_le (Heap.lt_size e) g.hC) (Nat.not_lt.mpr (Nat.le_of_succ_le hc'))
   ·cases q
 loc := fun x c q => by
  show c ≠ C
  rcases g.cellOf q with ⟨q, _⟩ | ⟨_, _, q⟩
  ·exact Nat.ne_of_gt q
  ·exact Nat.ne_of_lt (Nat.lt_of_lt_of_le q g.hC)
theorem CI.own (g : CG G cx sc csc ρ₁ S₁ h₁ wr C ρ₀) {x : Str} (hx : csc.names.lookup x = some .local ∨ csc.names.lookup x = some .cell) : U7 (K5 cx csc sc C wr S h) (QB csc sc) x := by
 unfold U7
 rw [UA]
 rcases hx with q | q
 ·rw [q]; exact .inl rfl
 ·rw [q]
  refine .inr ⟨rfl, ?_⟩
  obtain ⟨c, hc⟩ := Option.isSome_iff_exists.mp (YM csc.names (C + 1) (Jm cx.env csc.names []) (.inl q))
  refine ⟨c, hc, ?_⟩
  show (J8 h _).get? c = none
  rw [ZK, if_pos]
  rcases g.cellOf (x := x) hc with ⟨hlt, _⟩ | ⟨hf, _⟩
  ·refine List.mem_append.mpr (.inr (.tail _ ?_))
   unfold Ki
   exact List.mem_map.mpr ⟨(x, c), List.mem_filter.mpr ⟨Yw hc, by simpa using hlt⟩, rfl⟩
  ·rw [q] at hf; cases hf
set_option tactic.hygienic true in
theorem CI.of_rel {ρ' : AEnv} (g : CG G cx sc csc ρ₁ S₁ h₁ wr C ρ₀) (ci : CI G cx sc csc S₁ h₁ wr C S h) (r : Rel G (K5 cx csc sc C wr S h) (QB csc sc) ρ' S' h') (sub : ∀ b, S b → S' b) (dom : ∀ b ∈ wr, ∃ o, h'.get? b = some o) : CI G cx sc csc S₁ h₁ wr C S' h' where
 aft := {
  keep := fun b o hb e => by
   obtain ⟨sl, e₁, k₁⟩ := ci.aft.keep b o hb e
   have : (J8 h (wr ++ C :: Ki csc cx.env C)).get? b = some { o with slots := sl } := by rw [ZK, if_neg (g.notX e hb)]; exact e₁
   obtain ⟨sl', e₂, k₂⟩ := r.keep b _ this
   exact ⟨sl', e₂, fun hn => (k₂ hn).trans (k₁ hn)⟩
  dom := dom
  shape := ci.aft.shape
  sub := fun b q => sub b (ci.aft.sub b q)
  new := fun b q => by
   rcases r.sok b q with q | q
   ·exact ci.aft.new b q
   ·have q : (J8 h (wr ++ C :: Ki csc cx.env C)).get? b = none := q
    rw [ZK] at q
    split at q
    ·rename_i m
     rcases List.mem_append.mp m with m | m
     ·exact .inr (.inl m)
     ·exact .inr (.inr (g.xNew m))
    ·right; right
     cases q' : h₁.get? b with
     | none => rfl
     | some o => obtain ⟨o', e'⟩ := ci.aft.domAll q'; rw [q] at e'; cases e'
  sdom := r.sdom }
 base := r.base
 ns := r.ns
 cells := r.cells
 sloc := r.sloc
 scell := r.scell
 live := r.live
theorem CI.append {D : Addr} {oD oD' : Obj} {vs : Array Value} {n : Nat} (g : CG G cx sc csc ρ₁ S₁ h₁ wr C ρ₀) (ci : CI G cx sc csc S₁ h₁ wr C S h) (eD : h.get? D = some oD) (hd : oD.data = .seq vs n) (hD : h₁.get? D = none) (kk : Heap.SameBut D h h') (e' : h'.get? D = some oD') : CI G cx sc csc S₁ h₁ wr C S h' := by
 have dom : ∀ b o, h.get? b = some o → ∃ o', h'.get? b = some o' := fun b o e => by
  by_cases hb : b = D
  ·subst hb; exact ⟨_, e'⟩
  ·exact ⟨o, (kk.2 b hb).trans e⟩
 have hC : C ≠ D := by
  rintro rfl
  obtain ⟨m, o, es, ep, q, hd', _⟩ := ci.ns
  rw [eD] at q; cases q; rw [hd] at hd'; cases hd'
 have hcell : ∀ x c, (Ze csc cx.env C).lookup x = some c → c ≠ D := fun x c q => by
  rintro rfl
  obtain ⟨v, o, q, hd'⟩ := ci.cells x _ q
  rw [eD] at q; cases q; rw [hd] at hd'; cases hd'
 refine { aft := { ci.aft with keep := fun b o hb e => ?_, dom := fun b hb => ?_, sdom := fun b q => ?_ }, base := fun b o q => (kk.2 b ?_).trans (ci.base b o q), ns := ?_, cells := fun x c q => ?_, sloc := ci.sloc, scell := ci.scell, live := fun x a hdx q => ?_ }
 ·obtain ⟨sl, q, k₁⟩ := ci.aft.keep b o hb e
  exact ⟨sl, (kk.2 b (by rintro rfl; rw [hD] at e; cases e)).trans q, k₁⟩
 ·obtain ⟨o, q⟩ := ci.aft.dom b hb
  exact dom b o q
 ·obtain ⟨o, q⟩ := ci.aft.sdom b q
  exact dom b o q
 ·rintro rfl
  rw [g.r.base _ _ q] at hD; cases hD
 ·obtain ⟨m, n⟩ := ci.ns
  exact ⟨m, n.sameBut kk hC⟩
 ·obtain ⟨v, n⟩ := ci.cells x c q
  exact ⟨v, n.sameBut kk (hcell x c q)⟩
 ·have : Var (Jt csc sc cx.env C) h x (.ref a) := by
   rcases q with ⟨a1, m₁, b, c⟩ | ⟨a1, c, b, d⟩
   ·obtain ⟨m₀, n₀⟩ := ci.ns
    exact .inl ⟨a1, m₀, n₀, by rw [(n₀.sameBut kk hC).agree b x]; exact c⟩
   ·obtain ⟨w₀, n₀⟩ := ci.cells x c b
    exact .inr ⟨a1, c, b, by rw [IsCell.inj d (n₀.sameBut kk (hcell x c b))]; exact n₀⟩
  obtain ⟨o, e⟩ := ci.live x a hdx this
  exact dom a o e
end
end Mine
end

section
set_option Elab.async false
set_option maxRecDepth 100000
namespace Mine
open PySem PyProof.Rows
theorem V1 {prog : Program} {w : World} {A : Around} {R : Result → Shared → Prop} {s : Shared} {elt target iter : Expr} {ifs : List Expr} {scope : Scope} {pos : Pos} {it acc : Value} {env : Env} (I : Nat → Shared → Prop)
  (turn : ∀ n s, I n s → wpAny (model prog w) A (pyNext it) (fun r s₁ => match r with
   | none => R (.ok .next) s₁
   | some v => wpAny (model prog w) A (letOwnedTupleGo target it v) (fun _ s₁' => wpAny (model prog w) A (assign target env v) (fun _ s₂ =>
     wpAny (model prog w) A (forIn ifs true fun c r => if r = true then do let ok ← isTrue c env (eval c env); pure (ForInStep.yield ok) else pure (ForInStep.yield r)) (fun ok s₃ =>
      if ok = true then wpAny (model prog w) A (eval elt env) (fun x s₄ =>
       wpAny (model prog w) A (call (.builtin "list.append") [acc, x]) (fun _ s₅ => ∃ m, m < n ∧ I m s₅) (notedBy (model prog w) A env fun e s' => R (.error e) s') s₄) (notedBy (model prog w) A env fun e s' => R (.error e) s') s₃
      else ∃ m, m < n ∧ I m s₃) (notedBy (model prog w) A env fun e s' => R (.error e) s') s₂) (notedBy (model prog w) A env fun e s' => R (.error e) s') s₁') (notedBy (model prog w) A env fun e s' => R (.error e) s') s₁) (notedBy (model prog w) A env fun e s' => R (.error e) s') s)
  (n : Nat) (h : I n s) : codeAny (model prog w) A (.compLoop (.ListComp elt [⟨target, iter, ifs, 0⟩] scope pos) 0 it acc env) R s := by
 refine codeAny_loop rfl I (fun n s hI => ?_) n h
 show wpAny _ A ((compTurn (.ListComp elt [⟨target, iter, ifs, 0⟩] scope pos) 0 it acc env).onRaise (fun x => do noteFrame x env; theTreesLotGoes x)) _ _ s
 refine wpAny_noted ?_
 rw [compTurn_list]
 refine wpAny_bind (wpAny_standAt (wpAny_bind (wpAny_mono (turn n s hI) (fun r s₁ h₁ => ?_) fun _ _ h' => h')))
 cases r with
 | none => exact wpAny_pure h₁
 | some v =>
  refine wpAny_bind (wpAny_mono h₁ (fun _ s₁' h₁' => ?_) fun _ _ h' => h')
  refine wpAny_bind (wpAny_mono h₁' (fun _ s₂ h₂ => wpAny_bind (wpAny_mono h₂ (fun ok s₃ h₃ => ?_) fun _ _ h' => h')) fun _ _ h' => h')
  cases ok with
  | false => exact wpAny_pure ⟨rfl, h₃⟩
  | true =>
   exact wpAny_bind (wpAny_bind (wpAny_mono h₃ (fun x s₄ h₄ => wpAny_bind (wpAny_mono h₄ (fun _ s₅ h₅ => wpAny_pure (wpAny_pure ⟨rfl, h₅⟩)) fun _ _ h' => h')) fun _ _ h' => h'))
noncomputable def KM (G : Gd) (k : Nat) (sc : Scope) (ifs : List Expr) (f : AEnv → Res Bool) : Prop :=
 ∀ cx, CxOk G cx sc k → ∀ ρ S s, Rel G cx sc ρ S s.heap → Qx G cx sc true (forIn ifs true fun c r => if r = true then do let ok ← isTrue c cx.env (eval c cx.env); pure (ForInStep.yield ok) else pure (ForInStep.yield r)) S s (fun _ _ a b => a = b) (f ρ)
noncomputable def Bc : AEnv → Res Bool := fun ρ => .ok true ρ
theorem Kh {G : Gd} {k : Nat} {sc : Scope} : KM G k sc [] Bc := fun _ _ _ _ _ r => Qx.pure r rfl
theorem Vx {G : Gd} {k : Nat} {sc : Scope} {c : Expr} {f : AEnv → Res Bool} (h : JI G k sc c f) : KM G k sc [c] f := fun cx ok ρ S s r Q E out => wpAny_tests_one (h cx ok ρ S s r Q E out)
noncomputable def YG (b : D → AEnv → Option AEnv) (t : AEnv → Res Bool) (f : AEnv → Res T) (ρ₀ : AEnv) : List D → List D → Option (List D)
 | [], acc => some acc
 | d :: ds, acc => match b d ρ₀ with
  | none => none
  | some ρ₁ => match t ρ₁ with
   | .ok true ρ₂ => (match f ρ₂ with
    | .ok v _ => if acc.length ≤ 1000000 then YG b t f ρ₀ ds (acc ++ [v.val]) else none
    | _ => none)
   | .ok false _ => YG b t f ρ₀ ds acc
   | _ => none
theorem After.ext {X : List Addr} {S₀ S S' : Addr → Prop} {h₀ h h' : Heap} (k : After X S h S' h') (x : Ext S₀ h₀ S h) (new : ∀ b ∈ X, h₀.get? b = none) : Ext S₀ h₀ S' h' :=
 ⟨fun b q => k.sub b (x.sub b q), fun b o e q => by
  obtain ⟨sl, e₁, k₁⟩ := x.keep b o e q
  obtain ⟨sl', e₂, k₂⟩ := k.keep b _ (fun m => by rw [new b m] at e; cases e) e₁
  exact ⟨sl', e₂, fun hn => (k₂ hn).trans (k₁ hn)⟩, fun b o e => by
  obtain ⟨o', e'⟩ := x.dom b o e
  exact k.domAll e'⟩
inductive CInv (G : Gd) (cx : Cx) (sc csc : Scope) (S₁ : Addr → Prop) (h₁ : Heap) (wr : List Addr) (C L : Addr) (St : Nat → (Addr → Prop) → Heap → Prop) (cn : List D → List D → Option (List D)) (ds out : List D) (s : Shared) : Nat → Shared → Prop
 | mk {i : Nat} {S' : Addr → Prop} {h' : Heap} {tk : Nat} {acc : List D} {vs : Array Value} {n : Nat} : i ≤ ds.length → CI G cx sc csc S₁ h₁ wr C S' h' → St i S' h' → h'.get? L = some { cls := .type "list", data := .seq vs n } → RVs S' h' vs.toList acc → ¬ S' L → cn (ds.drop i) acc = some out → CInv G cx sc csc S₁ h₁ wr C L St cn ds out s (ds.length + 1 - i) { s with heap := h', toks := tk }
section
variable {G : Gd} {cx : Cx} {sc csc : Scope} {ρ₁ ρ₀ : AEnv} {S₁ S : Addr → Prop} {h₁ : Heap} {wr : List Addr} {C L : Addr} {k : Nat}
set_option tactic.hygienic true in
theorem DW {tg iter elt : Expr} {ifs : List Expr} {pos : Pos} {I : Addr} {St : Nat → (Addr → Prop) → Heap → Prop} {ds out : List D} {xs : List Str} {b : D → AEnv → Option AEnv} {t : AEnv → Res Bool} {f : AEnv → Res T} {R : Result → Shared → Prop} {s : Shared} {n : Nat}
  (g : CG G cx sc csc ρ₁ S₁ h₁ wr C ρ₀) (ok : CxOk G cx sc k) (it : ItK G cx.A tg I wr St ds) (ha : KZ G (QB csc sc) tg xs b) (hxs : ∀ x ∈ xs, csc.names.lookup x = some .local ∨ csc.names.lookup x = some .cell)
  (ht : KM G k (QB csc sc) ifs t) (he : Sim G k (QB csc sc) elt f) (ci : CI G cx sc csc S₁ h₁ wr C S s.heap) (eD : s.heap.get? L = some { cls := .type "list", data := .seq #[] n }) (hD : h₁.get? L = none) (hLC : L < C) (hS : ¬ S L) (st : St 0 S s.heap)
  (hni : ∀ v, cx.A.handled = some v → ∀ b ∈ wr, v ≠ .ref b) (hc : YG b t f ρ₀ ds [] = some out)
  (fin : ∀ S' h' tk, CI G cx sc csc S₁ h₁ wr C S' h' → X2 S' h' L (.list out) → ¬ S' L → R (.ok .next) { s with heap := h', toks := tk }) :
  codeAny G.M cx.A (.compLoop (.ListComp elt [⟨tg, iter, ifs, 0⟩] csc pos) 0 (.ref I) (.ref L) (Jt csc sc cx.env C)) R s := by
 have hLX : L ∉ wr ++ C :: Ki csc cx.env C := fun m => by
  rcases List.mem_append.mp m with m | m
  ·obtain ⟨o, e, _⟩ := ci.aft.shape L m; rw [hD] at e; cases e
  ·rcases List.mem_cons.mp m with rfl | m
   ·exact absurd hLC (Nat.lt_irrefl _)
   ·unfold Ki at m
    obtain ⟨p, hp, rfl⟩ := List.mem_map.mp m
    have := (List.mem_filter.mp hp).2
    simp only [decide_eq_true_eq] at this
    exact absurd hLC (Nat.not_lt.mpr (Nat.le_of_lt this))
 have hLw : L ∉ wr := fun m => hLX (List.mem_append.mpr (.inl m))
 obtain ⟨Inv, hI, hC⟩ : ∃ Inv : Nat → Shared → Prop, (∀ m s', CInv G cx sc csc S₁ h₁ wr C L St (YG b t f ρ₀) ds out s m s' → Inv m s') ∧ ∀ m s', Inv m s' → CInv G cx sc csc S₁ h₁ wr C L St (YG b t f ρ₀) ds out s m s' := ⟨_, fun _ _ q => q, fun _ _ q => q⟩
 refine V1 Inv ?_ (ds.length + 1) (hI _ _ (.mk (i := 0) (tk := s.toks) (acc := []) (vs := #[]) (Nat.zero_le _) ci st eD .nil hS (by rw [List.drop_zero]; exact hc)))
 generalize (notedBy G.M cx.A (Jt csc sc cx.env C) fun e s' => R (.error e) s') = EN
 intro m s' hinv
 cases hC m s' hinv with
 | mk hi ci' st' eL racc hSL hcn =>
 rename_i i S' h' tk acc vs n'
 have r' := ci'.rel g
 have new' : ∀ b ∈ wr, (K5 cx csc sc C wr S' h').h₀.get? b = none ∧ G.B.get? b = none := fun b hb => ⟨by
  show (J8 h' _).get? b = none
  rw [ZK, if_pos (List.mem_append.mpr (.inl hb))], (g.new b hb).2⟩
 by_cases hlt : i < ds.length
 ·have hd : ds[i]? = some ds[i] := List.getElem?_eq_getElem hlt
  rw [W3 hd, YG] at hcn
  split at hcn
  ·cases hcn
  rename_i ρ₂ hb
  refine wpAny_mono (it.item i S' { s with heap := h', toks := tk } ds[i] (fun v s₂ => wpAny G.M cx.A (assign tg (Jt csc sc cx.env C) v) (fun _ s₂ =>
     wpAny G.M cx.A (forIn ifs true fun c r => if r = true then do let ok ← isTrue c (Jt csc sc cx.env C) (eval c (Jt csc sc cx.env C)); pure (ForInStep.yield ok) else pure (ForInStep.yield r)) (fun ok s₃ =>
      if ok = true then wpAny G.M cx.A (eval elt (Jt csc sc cx.env C)) (fun x s₄ =>
       wpAny G.M cx.A (call (.builtin "list.append") [.ref L, x]) (fun _ s₅ => ∃ m, m < ds.length + 1 - i ∧ Inv m s₅) EN s₄) EN s₃
      else ∃ m, m < ds.length + 1 - i ∧ Inv m s₃) EN s₂) EN s₂) _ EN hd st' fun v h₂ t₂ rv st₂ kb => ?_) (fun rr s₁ hh => by
   obtain ⟨v, rfl, hh⟩ := hh
   exact hh) fun _ _ e => e
  obtain ⟨r₂, v₂⟩ := r'.aside (it.shape i S' h' st') new' kb
  have ok' : CxOk G (K5 cx csc sc C wr S' h') (QB csc sc) k := CI.ok g ci' ok
  refine ha (K5 cx csc sc C wr S' h') k ok' (CI.fn g ci') (fun x hx => CI.own g (hxs x hx)) ρ₀ S' { s with heap := h₂, toks := t₂ } v ds[i] ρ₂ r₂ rv hb _ _ ?_
  intro _ h₃ t₃ S₃ r₃ _ x₃ _
  have st₃ := it.ext _ _ _ _ _ st₂ x₃
  have racc₃ : RVs S₃ h₃ vs.toList acc := (racc.aside (it.shape i S' h' st') kb).ext x₃
  refine ht (K5 cx csc sc C wr S' h') ok' ρ₂ S₃ { s with heap := h₃, toks := t₃ } r₃ _ _ ?_
  have done : ∀ {ρ' S'' h''}, Rel G (K5 cx csc sc C wr S' h') (QB csc sc) ρ' S'' h'' → (∀ b, S' b → S'' b) → St (i + 1) S'' h'' → CI G cx sc csc S₁ h₁ wr C S'' h'' ∧ h''.get? L = some { cls := .type "list", data := .seq vs n' } ∧ ¬ S'' L := fun {ρ' S'' h''} r sub st => by
   refine ⟨CI.of_rel g ci' r sub fun b hb => let ⟨o, e, _⟩ := it.shape _ _ _ st b hb; ⟨o, e⟩, ?_, fun q => ?_⟩
   ·have : (J8 h' (wr ++ C :: Ki csc cx.env C)).get? L = some { cls := .type "list", data := .seq vs n' } := by rw [ZK, if_neg hLX]; exact eL
    exact r.keep.exact this (.seq rfl)
   ·rcases r.sok L q with q | q
    ·exact hSL q
    ·have q : (J8 h' (wr ++ C :: Ki csc cx.env C)).get? L = none := q
     rw [ZK, if_neg hLX, eL] at q; cases q
  split at hcn
  ·rename_i ρ₃ htv
   rw [htv]
   intro a h₄ t₄ S₄ r₄ j₄ x₄ _
   subst j₄
   simp only [if_true]
   have st₄ := it.ext _ _ _ _ _ st₃ x₄
   split at hcn
   ·rename_i v' ρ₄ hfv
    split at hcn
    ·rename_i hlen
     refine (he (K5 cx csc sc C wr S' h') ok' ρ₃ S₄ { s with heap := h₄, toks := t₄ } r₄).shared _ _ ?_
     rw [hfv]
     intro y h₅ t₅ S₅ r₅ j₅ x₅ _
     have st₅ := it.ext _ _ _ _ _ st₄ x₅
     have racc₅ : RVs S₅ h₅ vs.toList acc := (racc₃.ext x₄).ext x₅
     obtain ⟨ci₅, eL₅, hS₅⟩ := done r₅ (fun b q => x₅.sub b (x₄.sub b (x₃.sub b q))) st₅
     have hvl : vs.size = acc.length := by rw [← racc.length]; simp
     refine call_meets F.slot_list_append ⟨_, eL₅, rfl⟩ F.entry_list_append (F.args_list_append_2 _ _) (list_append L vs n' y (by rw [hvl, sizeLine_eq]; exact omB hlen)) ⟨eL₅, ?_⟩
     obtain ⟨m', hm'⟩ := ZV (fun xs => xs.push y) eL₅
     have sb : Heap.SameBut L h₅ (h₅.update L (Obj.mapSeq fun xs => xs.push y)) := Heap.SameBut.update ..
     have x₆ : Ext S₅ h₅ S₅ (h₅.update L (Obj.mapSeq fun xs => xs.push y)) := RV.but eL₅ YU hS₅ (fun b o hb eb => (sb.2 b hb).trans eb) ⟨_, hm'⟩
     refine ⟨ds.length + 1 - (i + 1), by omega, hI _ _ (.mk (i := i + 1) (tk := t₅) (acc := acc ++ [v'.val]) (vs := vs.push y) hlt (CI.append g ci₅ eL₅ rfl hD sb hm') (it.ext _ _ _ _ _ st₅ x₆) hm' ?_ hS₅ hcn)⟩
     rw [Array.toList_push]
     exact RVs.append (.cons (RV.ext x₆ j₅) .nil) (racc₅.ext x₆)
    ·cases hcn
   ·cases hcn
  ·rename_i ρ₃ htv
   rw [htv]
   intro a h₄ t₄ S₄ r₄ j₄ x₄ _
   subst j₄
   simp only [Bool.false_eq_true, if_false]
   have st₄ := it.ext _ _ _ _ _ st₃ x₄
   obtain ⟨ci₄, eL₄, hS₄⟩ := done r₄ (fun b q => x₄.sub b (x₃.sub b q)) st₄
   exact ⟨ds.length + 1 - (i + 1), by lia, hI _ _ (.mk (i := i + 1) (tk := t₄) hlt ci₄ st₄ eL₄ (racc₃.ext x₄) hS₄ hcn)⟩
  ·cases hcn
 ·have hie : i = ds.length := by exact Nat.le_antisymm hi (Nat.le_of_not_lt hlt)
  subst hie
  rw [List.drop_length, YG] at hcn
  cases hcn
  refine it.done S' { s with heap := h', toks := tk } _ _ st' r'.hOk hni fun h₂ t₂ kb => ?_
  have sh := it.shape _ S' h' st'
  obtain ⟨r₂, v₂⟩ := r'.aside sh new' kb
  refine fin S' h₂ t₂ (CI.of_rel g ci' r₂ (fun _ q => q) kb.2) ⟨vs, n', kb.1 L _ hLw eL, racc.aside sh kb⟩ hSL
end
end Mine
end

section
set_option Elab.async false
set_option maxRecDepth 100000
namespace Mine
open PySem PyProof.Rows
set_option tactic.hygienic true in
theorem Js : ∀ {l : List (Str × NameKind)} {h : Heap} {acc : List (Str × Addr)} {x : Str} {c : Addr}, (cellsFrom h.objs.size l acc).lookup x = some c → (∃ c', acc.lookup x = some c' ∧ c' = c) ∨ ((pushCells h l).IsCell c none ∧ h.objs.size ≤ c)
 | [], _, _, _, _, q => .inl ⟨_, q, rfl⟩
 | (y, k) :: r, h, acc, x, c, q => by
  unfold cellsFrom at q
  unfold pushCells
  split at q
  ·rename_i hk
   rw [if_pos hk]
   rw [show h.objs.size + 1 = (h.push { cls := .type "cell", data := .cell none }).objs.size from (Heap.size_push ..).symm] at q
   rcases Js q with ⟨c', q', rfl⟩ | ⟨q', hl⟩
   ·rw [List.lookup_cons] at q'
    cases hx : x == y with
    | true =>
     rw [hx] at q'; cases q'
     exact .inr ⟨⟨_, pushCells_keeps _ _ _ _ (Heap.get?_push_size _ rfl), rfl⟩, Nat.le_refl _⟩
    | false => rw [hx] at q'; exact .inl ⟨_, q', rfl⟩
   ·rw [Heap.size_push] at hl
    exact .inr ⟨q', Nat.le_of_succ_le hl⟩
  ·rename_i hk
   rw [if_neg hk]
   exact Js q
section
variable {G : Gd} {cx : Cx} {sc csc : Scope} {ρ₁ ρ₀ : AEnv} {S₁ : Addr → Prop} {h₁ : Heap} {wr : List Addr} {k : Nat}
noncomputable def JE (h₁ : Heap) (csc : Scope) : Heap := pushCells ((h₁.push { cls := .type "list", data := .seq ([] : List Value).toArray }).push { cls := .type "dict", data := .dict #[] }) csc.names
theorem XJ {b : Addr} {o : Obj} (e : h₁.get? b = some o) : (JE h₁ csc).get? b = some o := pushCells_keeps _ _ _ _ (Heap.get?_push_of_some _ (Heap.get?_push_of_some _ e))
theorem CI.init (g : CG G cx sc csc ρ₁ S₁ h₁ wr (h₁.objs.size + 1) ρ₀) (sh : ∀ b ∈ wr, ∃ o, h₁.get? b = some o ∧ ZD o) : CI G cx sc csc S₁ h₁ wr (h₁.objs.size + 1) S₁ (JE h₁ csc) := by
 have hs : ((h₁.push { cls := .type "list", data := .seq ([] : List Value).toArray }).push { cls := .type "dict", data := .dict #[] }).objs.size = h₁.objs.size + 1 + 1 := by rw [Heap.size_push, Heap.size_push]
 have ns : (JE h₁ csc).Ns (h₁.objs.size + 1) fun _ => none := by
  have := (Heap.Ns.new (h₁.push { cls := .type "list", data := .seq ([] : List Value).toArray }) (.type "dict")).keeps (pushCells_keeps csc.names _)
  rw [Heap.size_push] at this
  exact this
 have cell : ∀ x c, (Ze csc cx.env (h₁.objs.size + 1)).lookup x = some c → (csc.names.lookup x = some .free ∧ cx.env.cells.lookup x = some c) ∨ ((JE h₁ csc).IsCell c none ∧ h₁.objs.size + 2 ≤ c) := fun x c q => by
  rcases g.cellOf q with ⟨hc, _⟩ | ⟨a, b, _⟩
  ·unfold Ze at q
   rw [← hs] at q
   rcases Js q with ⟨c', q', rfl⟩ | ⟨q', hl⟩
   ·rcases Zz q' with q' | q'
    ·obtain ⟨v, o, e, _⟩ := g.r.cells x c' q'
     exact absurd (Heap.lt_size e) (Nat.not_lt.mpr (Nat.le_of_lt (Nat.lt_of_succ_lt hc)))
    ·cases q'
   ·rw [hs] at hl; exact .inr ⟨q', hl⟩
  ·exact .inl ⟨a, b⟩
 refine { aft := ⟨fun b o _ e => ⟨o.slots, XJ e, fun _ => rfl⟩, fun b hb => let ⟨o, e, _⟩ := sh b hb; ⟨o, XJ e⟩, sh, fun _ q => q, fun b q => .inl q, fun b q => let ⟨o, e⟩ := g.r.sdom b q; ⟨o, XJ e⟩⟩, base := fun b o e => XJ (g.r.base b o e), ns := ⟨_, ns⟩, cells := fun x c q => ?_, sloc := fun q => ?_, scell := fun x c q q' => ?_, live := fun x a hd q => ?_ }
 ·rcases cell x c q with ⟨_, q⟩ | ⟨q, _⟩
  ·obtain ⟨v, o, e, hd⟩ := g.r.cells x c q
   exact ⟨v, o, XJ e, hd⟩
  ·exact ⟨_, q⟩
 ·obtain ⟨o, e⟩ := g.r.sdom _ q
  exact absurd (Heap.lt_size e) (Nat.not_lt.mpr (Nat.le_succ _))
 ·rcases cell x c q with ⟨_, q⟩ | ⟨_, hl⟩
  ·exact g.r.scell x c q q'
  ·obtain ⟨o, e⟩ := g.r.sdom _ q'
   exact absurd (Heap.lt_size e) (Nat.not_lt.mpr (Nat.le_of_succ_le (Nat.le_of_succ_le hl)))
 ·rcases q with ⟨a1, m, n, e⟩ | ⟨a1, c, q, n⟩
  ·have := ns.agree n x; rw [e] at this; cases this
  ·rcases cell x c q with ⟨hf, hl⟩ | ⟨q', _⟩
   ·obtain ⟨v, n₀⟩ := g.r.cells x c hl
    have n₁ : (JE h₁ csc).IsCell c v := n₀.keeps fun b o e => XJ e
    cases IsCell.inj n n₁
    obtain ⟨_, hk⟩ := g.free (Yw hf)
    have hkk : cx.env.kindOf x = sc.names.lookup x := by unfold Env.kindOf; rw [g.hsc]
    obtain ⟨o, e⟩ := g.r.live x a hd (.inr ⟨by rw [hkk]; exact hk, c, hl, n₀⟩)
    exact ⟨o, XJ e⟩
   ·cases IsCell.inj n q'
end
noncomputable def WW (sc csc : Scope) (src : AEnv → Res (List D)) (b : D → AEnv → Option AEnv) (t : AEnv → Res Bool) (f : AEnv → Res T) : AEnv → Res T := fun ρ => match KV sc csc ρ (Qg (QB csc sc)) with
 | none => .stuck
 | some _ => match src ρ with
  | .ok ds ρ₁ => (match KV sc csc ρ₁ (Qg (QB csc sc)) with
   | some ρ₀ => (match YG b t f ρ₀ ds [] with
    | some out => .ok (.ow true (.list out)) ρ₁
    | none => .stuck)
   | none => .stuck)
  | _ => .stuck
set_option tactic.hygienic true in
theorem Fq {sc csc : Scope} {src : AEnv → Res (List D)} {b : D → AEnv → Option AEnv} {t : AEnv → Res Bool} {f : AEnv → Res T} {ρ : AEnv} (h : WW sc csc src b t f ρ ≠ .stuck) :
  ∃ ρ' ds ρ₁ ρ₀ out, KV sc csc ρ (Qg (QB csc sc)) = some ρ' ∧ src ρ = .ok ds ρ₁ ∧ KV sc csc ρ₁ (Qg (QB csc sc)) = some ρ₀ ∧ YG b t f ρ₀ ds [] = some out ∧ WW sc csc src b t f ρ = .ok (.ow true (.list out)) ρ₁ := by
 unfold WW at h ⊢
 split at h
 ·exact absurd rfl h
 ·rename_i ρ' h1
  split at h
  ·rename_i ds ρ₁ h2
   split at h
   ·rename_i ρ₀ h3
    split at h
    ·rename_i out h4
     exact ⟨ρ', ds, ρ₁, ρ₀, out, h1, h2, h3, h4, rfl⟩
    ·exact absurd rfl h
   ·exact absurd rfl h
  ·exact absurd rfl h
theorem Gx {G : Gd} {cx : Cx} {sc : Scope} {ρ : AEnv} {S : Addr → Prop} {i : Nat} {x : Str} {v : Value} {t : T} {s : Shared} {E : Value → Shared → Prop} {Q : Unit → Shared → Prop} (ok : CxOk G cx sc 0) (fn : FnCx G cx) (r : Rel G cx sc ρ S s.heap) (hx : (Qg sc)[i]? = some x) (hk : sc.names.lookup x = some .local) (hcl : Xn x = false ∨ ∃ d, t = .sh d) (tv : JJ cx S s.heap v t)
  (hQ : ∀ h' tk, Rel G cx sc (ρ.set i (some t)) S h' → Ext S s.heap S h' → Heap.SameBut cx.env.locals s.heap h' → (∀ y w, y ≠ x → Var cx.env h' y w → Var cx.env s.heap y w) → Q () { s with heap := h', toks := tk }) : wpAny G.M cx.A (storeName cx.env x v) Q E s := by
 have hkf : cx.env.scope.kind = .function := by rw [ok.hsc]; exact ok.hk
 have kd : ∀ y, cx.env.kindOf y = sc.names.lookup y := fun y => by unfold Env.kindOf; rw [ok.hsc]
 obtain ⟨m, hm⟩ := r.ns
 have hm0 := hm
 obtain ⟨oL, es, ep, eL, dL, _⟩ := hm0
 refine wpAny_storeName_local ((kd x).trans hk) hm (fun h' n' k => ?_) (by rw [hkf]; rfl)
 have n'' := n'
 obtain ⟨oL', es', ep', eL', dL', _⟩ := n''
 have cellsame : ∀ y c, cx.env.cells.lookup y = some c → ∀ w, s.heap.IsCell c w → h'.IsCell c w := fun y c q w n => n.sameBut k (fn.loc y c q)
 have vx : Var cx.env h' x v := .inl ⟨(kd x).trans hk, _, n', by simp⟩
 have hf : ∀ y w, y ≠ x → Var cx.env h' y w → Var cx.env s.heap y w := fun y w hy q => by
  rcases q with ⟨a, m₁, b, c⟩ | ⟨a, c, b, d⟩
  ·refine .inl ⟨a, m, hm, ?_⟩
   have := b.agree n' y
   rw [if_neg hy] at this
   rw [← this]; exact c
  ·obtain ⟨w₀, n₀⟩ := r.cells y c b
   exact .inr ⟨a, c, b, by rw [IsCell.inj d (cellsame y c b _ n₀)]; exact n₀⟩
 obtain ⟨r', x'⟩ := r.store (loc := cx.env.locals) (i := i) (x := x) (v := v) (t := t) fn.bh ok.nodup hx eL (by rintro (⟨_, vs, n, q⟩ | ⟨vs, q⟩) <;> (rw [dL] at q; cases q)) (fun vs n q => by rw [dL] at q; cases q) r.sloc fn.lnew (.inl rfl) k
  ⟨oL', eL', fun _ => ⟨es', ep', dL'⟩⟩ ⟨_, n'⟩ (fun y c q => let ⟨w, n⟩ := r.cells y c q; ⟨w, cellsame y c q w n⟩) vx
  (fun y w hy q => by
   rcases q with ⟨a, m₁, b, c⟩ | ⟨a, c, b, d⟩
   ·refine .inl ⟨a, _, n', ?_⟩
    rw [if_neg hy, ← b.agree hm y]; exact c
   ·exact .inr ⟨a, c, b, cellsame y c b _ d⟩)
  hf hcl tv.st
 exact hQ h' _ r' x' k hf
theorem Rel.butDict {G : Gd} {cx : Cx} {sc : Scope} {ρ : AEnv} {S : Addr → Prop} {h h' : Heap} {C : Addr} {oC : Obj} {es : Array DictEntry} {ep : Nat} (r : Rel G cx sc ρ S h) (e : h.get? C = some oC) (hd : oC.data = .dict es ep) (hS : ¬ S C) (hl : C ≠ cx.env.locals) (h0 : cx.h₀.get? C = none) (hB : G.B.get? C = none) (hff : ∀ env ∈ cx.fs, env.frame ≠ some C) (hv : ∀ (j : Nat) (y : Str) (m : Bool) (ks : List (List Int)) (ds : List D), (Qg sc)[j]? = some y → ρ[j]? = some (some (.ow m (.dict ks ds))) → ¬ Var cx.env h y (.ref C)) (k : Heap.SameBut C h h') (e' : ∃ o, h'.get? C = some o) :
  Rel G cx sc ρ S h' ∧ Ext S h S h' ∧ QA cx.env h h' ∧ (∀ y w, Var cx.env h' y w → Var cx.env h y w) := by
 have hi : ¬ Imm oC := by rintro (⟨_, vs, n, q⟩ | ⟨vs, q⟩) <;> (rw [hd] at q; cases q)
 have x' : Ext S h S h' := RV.but e hi hS (fun b o hb eb => (k.2 b hb).trans eb) e'
 have nsame : ∀ m, h.Ns cx.env.locals m → h'.Ns cx.env.locals m := fun m n => n.sameBut k (Ne.symm hl)
 have cne : ∀ y c, cx.env.cells.lookup y = some c → c ≠ C := fun y c q => by
  rintro rfl
  obtain ⟨v, o, e'', hd'⟩ := r.cells y _ q
  rw [e] at e''; cases e''; rw [hd] at hd'; cases hd'
 have csame : ∀ y c, cx.env.cells.lookup y = some c → ∀ w, h.IsCell c w → h'.IsCell c w := fun y c q w n => n.sameBut k (cne y c q)
 have same : QA cx.env h h' := fun y w q => by
  rcases q with ⟨a, m₁, b, c⟩ | ⟨a, c, b, d⟩
  ·exact .inl ⟨a, m₁, nsame m₁ b, c⟩
  ·exact .inr ⟨a, c, b, csame y c b _ d⟩
 have hf : ∀ y w, Var cx.env h' y w → Var cx.env h y w := fun y w q => by
  rcases q with ⟨a, m₁, b, c⟩ | ⟨a, c, b, d⟩
  ·obtain ⟨m₀, n₀⟩ := r.ns
   exact .inl ⟨a, m₀, n₀, by rw [(nsame m₀ n₀).agree b y]; exact c⟩
  ·obtain ⟨w₀, n₀⟩ := r.cells y c b
   exact .inr ⟨a, c, b, by rw [IsCell.inj d (csame y c b _ n₀)]; exact n₀⟩
 refine ⟨⟨fun b o q => (k.2 b (by rintro rfl; rw [hB] at q; cases q)).trans (r.base b o q), fun b o q => ?_, fun env he => ?_, let ⟨m, n⟩ := r.ns; ⟨m, nsame m n⟩, fun y c q => let ⟨w, n⟩ := r.cells y c q; ⟨w, csame y c q w n⟩, fun b q => let ⟨o, eo⟩ := r.sdom b q; x'.dom b o eo, r.sok, r.sloc, r.scell, fun y b hdy q => let ⟨o, eo⟩ := r.live y b hdy (hf y _ q); x'.dom b o eo, r.clean, fun v q => let ⟨C, e⟩ := r.hok v q; ⟨C, e.ext x'⟩, fun j y u hy hu => ?_, fun j l y z m m' d d' u hy hz hj hl a b => r.inj j l y z m m' d d' u hy hz hj hl (hf y _ a) (hf z _ b), r.dok.back hf⟩, x', same, hf⟩
 ·obtain ⟨sl, q₁, k₁⟩ := r.keep b o q
  exact ⟨sl, (k.2 b (by rintro rfl; rw [h0] at q; cases q)).trans q₁, k₁⟩
 ·obtain ⟨p, L, o, b, c, d, es, n, q⟩ := r.ff env he
  exact ⟨p, L, o, b, c, (k.2 L (by rintro rfl; exact hff env he b)).trans d, es, n, q⟩
 ·obtain ⟨w, hw', tw⟩ := r.vars j y u hy hu
  refine ⟨w, same y w hw', ?_⟩
  cases u with
  | sh d => exact RV.ext x' tw
  | ow m d =>
   obtain ⟨b, rfl, n1, ow, n2⟩ := tw
   refine ⟨b, rfl, n1, ow.ext x' fun o eo => ⟨o.slots, (k.2 b ?_).trans eo, fun _ => rfl⟩, n2⟩
   rintro rfl
   rcases ow.cases with ow | ⟨ks, ds, rfl, _⟩
   ·obtain ⟨o', ho', _, vs, n, hd'⟩ := ow.cls
    rw [e] at ho'; cases ho'; rw [hd] at hd'; cases hd'
   ·exact hv j y m ks ds hy hu hw'
noncomputable def Eg (M : Model) (A : Around) (E : Value → Shared → Prop) (use : Option (Value → Sem Unit)) (Q : Value → Shared → Prop) (acc : Value) (C : Addr) (r : Result) (s' : Shared) : Prop := match r, use with
 | .ok _, none => ∃ m, s'.heap.Ns C m ∧ ∀ h' m', h'.Ns C m' → Heap.SameBut C s'.heap h' → Q acc { s' with heap := h' }
 | .ok _, some u => wpAny M A (u acc) (fun _ s'' => ∃ m, s''.heap.Ns C m ∧ ∀ h' m', h'.Ns C m' → Heap.SameBut C s''.heap h' → Q .none { s'' with heap := h' }) E s'
 | .error _, _ => False
theorem Kv {M : Model} {A : Around} {E : Value → Shared → Prop} {s : Shared} {env : Env} {e : Expr} {scope : Scope} {pos : Pos} {newAcc first : Sem Value} {g : Comprehension} {gs : List Comprehension} {cl : List (Str × Addr)} {use : Option (Value → Sem Unit)} {Q : Value → Shared → Prop}
  (hcl : clausesOf e = g :: gs) (hs : ∀ x, foldedSetIterable g.iter env x = pure x) (hclos : closureFor scope env = pure cl) (hkind : scope.kind = .function) (hnames : ∀ x ∈ scope.names, x.2 = .local → scope.names.lookup x.1 = some .local)
  (h : wpAny M A first (fun x s₁ => wpAny M A (pyIter x) (fun it s₂ => wpAny M A newAcc (fun acc s₃ => wpAny M A (newFunctionEnv scope env.globals cl [] env.qual none .none (some env)) (fun cenv s₄ =>
   codeAny M A (.compStart e 0 it acc { cenv with scope := relabel scope env }) (Eg M A E use Q acc cenv.locals) s₄) E s₃) E s₂) E s₁) E s) :
  wpAny M A (comprehension e scope env pos newAcc false first use) Q E s := by
 unfold comprehension
 rw [hclos, hcl]
 refine wpAny_bind (wpAny_mono h (fun x s₁ h₁ => wpAny_bind (wpAny_standAt (wpAny_bind (wpAny_of_eq (hs x) (wpAny_bind (wpAny_holding (wpAny_mono h₁ (fun it s₂ h₂ => wpAny_standIf (wpAny_bind (wpAny_mono h₂ (fun acc s₃ h₃ => wpAny_bind (wpAny_pure (wpAny_bind (wpAny_mono h₃ (fun cenv s₄ h₄ => ?_) fun _ _ z => z)))) fun _ _ z => z))) fun _ _ z => z))))))) fun _ _ z => z)
 dsimp only
 have loc : ∀ x : Str × NameKind, x ∈ scope.names → x.2 = .local → Env.kindOf { cenv with scope := relabel scope env } x.1 = some .local := fun x hx hl => lookup_relabel_local (hnames x hx hl)
 have v1 : ∀ x ∈ (scope.names.filter fun x => (x.2 == .local || x.2 == .cell) && x.1 != (".0" : Str)).reverse, x.2 = .local → Env.kindOf { cenv with scope := relabel scope env } x.1 = some .local := fun x hx => loc x (List.mem_filter.mp (List.mem_reverse.mp hx)).1
 refine wpAny_holding (wpAny_bind (wpAny_attempt (wpAny_holding (wpAny_run (codeAny_mono h₄ fun r s' hr => ?_)))))
 cases r with
 | error x => cases use <;> exact hr.elim
 | ok f =>
  cases use with
  | none =>
   obtain ⟨m, hn, hr⟩ := hr
   exact wpAny_bind (wpAny_holding (wpAny_comp_letGo (cenv := { cenv with scope := relabel scope env }) hkind _ s' m v1 hn fun h' m' hn' hs' => wpAny_pure (hr h' m' hn' hs')))
  | some u =>
   refine wpAny_bind (wpAny_rule (wpAny_bind (wpAny_holding (wpAny_mono hr (fun _ s'' hr' => ?_) fun _ _ z => z))))
   obtain ⟨m, hn, hr'⟩ := hr'
   refine wpAny_bind (wpAny_comp_letGo (cenv := { cenv with scope := relabel scope env }) hkind _ s'' m (fun x hx => ?_) hn fun h' m' hn' hs' => wpAny_pure (hr' h' m' hn' hs'))
   rcases List.mem_append.mp hx with q | q
   ·exact v1 x (List.mem_of_mem_drop q)
   ·exact v1 x (List.mem_of_mem_take q)
theorem After.varBack {G : Gd} {cx : Cx} {sc : Scope} {ρ : AEnv} {X : List Addr} {S S' : Addr → Prop} {h h' : Heap} (k : After X S h S' h') (r : Rel G cx sc ρ S h) {y : Str} {w : Value} (q : Var cx.env h' y w) : Var cx.env h y w := by
 rcases q with ⟨a, m₁, b, c⟩ | ⟨a, c, b, d⟩
 ·obtain ⟨m₀, n₀⟩ := r.ns
  exact .inl ⟨a, m₀, n₀, by rw [(k.ns n₀).agree b y]; exact c⟩
 ·obtain ⟨w₀, n₀⟩ := r.cells y c b
  exact .inr ⟨a, c, b, by rw [IsCell.inj d (k.cell n₀)]; exact n₀⟩
section
variable {G : Gd} {k : Nat} {sc csc : Scope}
theorem VA {cx : Cx} {ρ : AEnv} {S : Addr → Prop} {s : Shared} {tg iter elt : Expr} {ifs : List Expr} {pos p : Pos} {xs : List Str} {src : AEnv → Res (List D)} {b : D → AEnv → Option AEnv} {t : AEnv → Res Bool} {f : AEnv → Res T} {use : Option (Value → Sem Unit)} {Q : Value → Shared → Prop} {E : Value → Shared → Prop}
  (hi : Vo G k sc tg iter src) (ha : KZ G (QB csc sc) tg xs b) (hxs : ∀ x ∈ xs, csc.names.lookup x = some .local ∨ csc.names.lookup x = some .cell) (ht : KM G k (QB csc sc) ifs t) (he : Sim G k (QB csc sc) elt f) (hok : JV sc csc = true)
  (hs : ∀ env x, foldedSetIterable iter env x = pure x) (ok : CxOk G cx sc k) (r : Rel G cx sc ρ S s.heap) (nst : WW sc csc src b t f ρ ≠ .stuck)
  (fin : ∀ out ρ₁ L C S' h' tk, WW sc csc src b t f ρ = .ok (.ow true (.list out)) ρ₁ → Rel G cx sc ρ₁ S' h' → Ext S s.heap S' h' → QA cx.env s.heap h' → Fresh cx S' h' (.ref L) (.list out) → (∃ m, h'.Ns C m) → ¬ S' C → C ≠ L → C ≠ cx.env.locals → cx.h₀.get? C = none → G.B.get? C = none → s.heap.get? C = none → (∀ env ∈ cx.fs, env.frame ≠ some C) → (∀ (j : Nat) (y : Str) (m : Bool) (ks : List (List Int)) (ds : List D), (Qg sc)[j]? = some y → ρ₁[j]? = some (some (.ow m (.dict ks ds))) → ¬ Var cx.env h' y (.ref C)) →
   Eg G.M cx.A E use Q (.ref L) C (.ok .next) { s with heap := h', toks := tk }) :
  wpAny G.M cx.A (comprehension (.ListComp elt [⟨tg, iter, ifs, 0⟩] csc pos) csc cx.env p (newList []) false (eval iter cx.env) use) Q E s := by
 have hok0 := hok
 unfold JV at hok0
 simp only [Bool.and_eq_true, beq_iff_eq] at hok0
 have hkind : csc.kind = .function := hok0.1.1
 have hnd : (csc.names.map (·.1)).Nodup := X3 hok0.1.2
 obtain ⟨ρ', ds, ρ₁, ρ₀, out, c1, c2, c3, c4, c5⟩ := Fq nst
 have g₀ : CG G cx sc csc ρ S s.heap [] s.heap.objs.size ρ' := ⟨ok.hsc, r, (fun b hb => by cases hb), Nat.le_refl _, hok, c1⟩
 have hcl : ∀ x ∈ csc.names, x.2 = .free → ∃ c, cx.env.cells.lookup x.1 = some c := fun x hx hf => by
  obtain ⟨n, kk⟩ := x
  cases hf
  obtain ⟨c, v, i, t, h1, _⟩ := g₀.taken (Jw hnd hx)
  exact ⟨c, h1⟩
 refine Kv (use := use) rfl (hs cx.env) (Vh hcl) hkind (fun x hx hl => by
  obtain ⟨n, kk⟩ := x
  cases hl
  exact Jw hnd hx) ?_
 refine hi cx ok ρ S s r _ E ?_
 rw [c2]
 intro I wr St S₁ h₁ t₁ r₁ it st nw x₁ v₁
 have new : ∀ b ∈ wr, cx.h₀.get? b = none ∧ G.B.get? b = none := fun b hb => ⟨r.keep.none (nw b hb), by
  cases q : G.B.get? b with
  | none => rfl
  | some o => have := r.base b o q; rw [nw b hb] at this; cases this⟩
 have g : CG G cx sc csc ρ₁ S₁ h₁ wr (h₁.objs.size + 1) ρ₀ := ⟨ok.hsc, r₁, new, Nat.le_succ _, hok, c3⟩
 have sh := it.shape 0 S₁ h₁ st
 have ci := CI.init g sh
 refine wpAny_newObj_type (U8 ?_) (by show ([] : List Value).toArray.size ≤ sizeLine; simp)
 dsimp only
 rw [Heap.size_push]
 have envE : ({ scope := relabel csc cx.env, locals := h₁.objs.size + 1, globals := cx.env.globals, cells := cellsFrom (h₁.objs.size + 1 + 1) csc.names (Jm cx.env csc.names []), qual := cx.env.qual, func := none, code := cx.env.code, frame := cx.env.frame, builtins := cx.env.builtins } : Env) = Jt csc sc cx.env (h₁.objs.size + 1) := by
  unfold Jt Ze
  rw [CS ok.hsc]
 rw [envE]
 have hn₁ : h₁.get? h₁.objs.size = none := Heap.get?_none_of_le (Nat.le_refl _)
 have hn₂ : h₁.get? (h₁.objs.size + 1) = none := Heap.get?_none_of_le (Nat.le_succ _)
 have loop : codeAny G.M cx.A (.compLoop (.ListComp elt [⟨tg, iter, ifs, 0⟩] csc pos) 0 (.ref I) (.ref h₁.objs.size) (Jt csc sc cx.env (h₁.objs.size + 1))) (Eg G.M cx.A E use Q (.ref h₁.objs.size) (h₁.objs.size + 1)) { s with heap := JE h₁ csc, toks := t₁ } := by
  refine DW (s := { s with heap := JE h₁ csc, toks := t₁ }) (n := 0) g ok it ha hxs ht he ci ?_ hn₁ (Nat.lt_succ_self _) (fun q => ?_) (it.ext 0 S₁ h₁ S₁ _ st (Ext.of_keeps fun b o e => XJ e)) (ET r.hOk nw) c4 fun S' h' tk ci' own hSL => ?_
  ·exact pushCells_keeps _ _ _ _ (Heap.get?_push_of_some _ (Heap.get?_push_size _ rfl))
  ·obtain ⟨o, e⟩ := r₁.sdom _ q; rw [hn₁] at e; cases e
  ·obtain ⟨ro, same⟩ := r₁.after ci'.aft ci'.base fun b hb => (new b hb).1
   refine fin out ρ₁ h₁.objs.size (h₁.objs.size + 1) S' h' tk c5 ro (ci'.aft.ext x₁ nw) (v₁.trans same) ⟨_, rfl, hSL, own, r₁.keep.none hn₁, fun x hd q => ?_⟩ ci'.ns ci'.sloc (Nat.succ_ne_self _) ?_ (r₁.keep.none hn₂) ?_ (x₁.none hn₂) (fun env he q => ?_) fun j y m ks ds hy hj q => ?_
   rotate_right
   ·obtain ⟨o, e⟩ := r₁.live y _ (r₁.clean j y m _ hy hj) (ci'.aft.varBack r₁ q)
    rw [hn₂] at e; cases e
   ·obtain ⟨o, e⟩ := r₁.live x _ hd (ci'.aft.varBack r₁ q)
    rw [hn₁] at e; cases e
   ·intro q
    obtain ⟨m, o, _, _, e, _⟩ := r₁.ns
    rw [← q, hn₂] at e; cases e
   ·cases q : G.B.get? (h₁.objs.size + 1) with
    | none => rfl
    | some o => have := r₁.base _ o q; rw [hn₂] at this; cases this
   ·obtain ⟨_, L, o, b, _, d, _⟩ := r₁.ff env he
    rw [q] at b; cases b
    rw [hn₂] at d; cases d
 exact codeAny_compStart_list loop (it.self 0 S₁ _ _ _ (it.ext 0 S₁ h₁ S₁ _ st (Ext.of_keeps fun b o e => XJ e)) loop)
theorem VQ {tg iter elt : Expr} {ifs : List Expr} {pos : Pos} {xs : List Str} {src : AEnv → Res (List D)} {b : D → AEnv → Option AEnv} {t : AEnv → Res Bool} {f : AEnv → Res T} (hi : Vo G k sc tg iter src) (ha : KZ G (QB csc sc) tg xs b) (hxs : ∀ x ∈ xs, csc.names.lookup x = some .local ∨ csc.names.lookup x = some .cell)
  (ht : KM G k (QB csc sc) ifs t) (he : Sim G k (QB csc sc) elt f) (hok : JV sc csc = true) (hs : ∀ env x, foldedSetIterable iter env x = pure x) : Sim G k sc (.ListComp elt [⟨tg, iter, ifs, 0⟩] csc pos) (WW sc csc src b t f) := by
 intro cx ok ρ S s r Q E out
 rw [eval_ListComp]
 refine VA hi ha hxs ht he hok hs ok r (fun q => by rw [q] at out; exact out) fun ds ρ₁ L C S' h' tk e r' x' v' fr ns hSC hCL hCl hC0 hCB hCs hff hCv => ?_
 rw [e] at out
 obtain ⟨m, n⟩ := ns
 refine ⟨m, n, fun h'' m'' n'' k'' => ?_⟩
 obtain ⟨oC, es, ep, eC, dC, _⟩ := n
 obtain ⟨oC', _, _, eC', _⟩ := n''
 obtain ⟨r'', x'', v''⟩ := r'.butDict eC dC hSC hCl hC0 hCB hff hCv k'' ⟨_, eC'⟩
 obtain ⟨a, ea, n1, ow, n2, nv⟩ := fr
 cases ea
 exact out (.ref L) h'' tk S' r'' ⟨L, rfl, n1, ow.ext x'' fun o eo => (k''.2 L (Ne.symm hCL)).trans eo, n2, fun x hd q => nv x hd (v''.2 x _ q)⟩ (x'.trans x'') fun z => v'.trans v''.1
theorem K2 {tg iter elt : Expr} {ifs : List Expr} {pos yp spos : Pos} {xs : List Str} {y : Str} {i : Nat} {src : AEnv → Res (List D)} {b : D → AEnv → Option AEnv} {t : AEnv → Res Bool} {f : AEnv → Res T} (hi : Vo G k sc tg iter src) (ha : KZ G (QB csc sc) tg xs b) (hxs : ∀ x ∈ xs, csc.names.lookup x = some .local ∨ csc.names.lookup x = some .cell)
  (ht : KM G k (QB csc sc) ifs t) (he : Sim G k (QB csc sc) elt f) (hok : JV sc csc = true) (hs : ∀ env x, foldedSetIterable iter env x = pure x) (hy : (Qg sc)[i]? = some y) (hk : sc.names.lookup y = some .local) (hcl : Xn y = false)
  (hsw : ∀ env : Env, env.scope = sc → swapsWith (.ListComp elt [⟨tg, iter, ifs, 0⟩] csc pos) (some (.Name y yp)) spos.line env = pure true) : Jd G k sc (.Assign [.Name y yp] (.ListComp elt [⟨tg, iter, ifs, 0⟩] csc pos) spos) (Qy i (WW sc csc src b t f)) := by
 intro cx ok fn ρ S s r Q E out
 rw [exec_Assign_Name_used _ _ _ _ (hsw cx.env ok.hsc)]
 refine wpAny_bind (wpAny_standAt (wpAny_bind ?_))
 rw [arm_evalThenUse_ListComp]
 refine wpAny_bind ?_
 unfold Qy at out
 refine VA (use := some (assign (.Name y yp) cx.env)) hi ha hxs ht he hok hs ok r (fun q => by rw [q] at out; exact out) fun ds ρ₁ L C S' h' tk e r' x' v' fr ns hSC hCL hCl hC0 hCB hCs hff hCv => ?_
 rw [e] at out
 show wpAny G.M cx.A (assign (.Name y yp) cx.env (.ref L)) _ E _
 rw [PySem.assign_Name]
 refine wpAny_bind (wpAny_standAt (wpAny_bindName ?_))
 refine Gx (s := { s with heap := h', toks := tk }) (ok.mono (Nat.zero_le _)) fn.toFnCx r' hy hk (.inl hcl) (t := .ow true (.list ds)) fr fun h₂ t₂ r₂ x₂ k₂ f₂ => ?_
 obtain ⟨m, n⟩ := ns
 have n₂ : h₂.Ns C m := n.sameBut k₂ hCl
 refine ⟨m, n₂, fun h₃ m₃ n₃ k₃ => ?_⟩
 obtain ⟨oC, es, ep, eC, dC, _⟩ := n₂
 obtain ⟨oC', _, _, eC', _⟩ := n₃
 obtain ⟨r₃, x₃, v₃⟩ := r₂.butDict eC dC hSC hCl hC0 hCB hff (fun j z m ks ds' hz hj q => by
  have hj' := Vy hj (by intro q; cases q)
  refine hCv j z m ks ds' hz hj' (f₂ z _ ?_ q)
  rintro rfl
  obtain ⟨p1, e1⟩ := List.getElem?_eq_some_iff.mp hy
  obtain ⟨p2, e2⟩ := List.getElem?_eq_some_iff.mp hz
  cases (List.getElem_inj ok.nodup).mp (e1.trans e2.symm)
  by_cases hl : i < ρ₁.length
  ·rw [List.getElem?_set_self hl] at hj; cases hj
  ·rw [List.getElem?_eq_none (by rw [List.length_set]; exact Nat.le_of_not_lt hl)] at hj; cases hj) k₃ ⟨_, eC'⟩
 exact wpAny_pure (wpAny_pure (out .next h₃ t₂ S' r₃ trivial ((x'.trans x₂).trans x₃) fun z => by cases z))
end
end Mine
end

section
set_option Elab.async false
set_option maxRecDepth 100000
namespace Mine
open PySem PyProof.Rows
structure Gr (G : Gd) : Prop where
 ok : G.Ok
 tr : ∃ p loose, W.TopRead p loose G.mg G.mb G.B
 mbb : ∀ x : Str, x ≠ "__name__" → G.mb x = bootBuiltins x
theorem Gr.loud {G : Gd} (g : Gr G) : Gr G.loud := ⟨⟨g.ok.g, g.ok.b, g.ok.nolimit, g.ok.K⟩, g.tr, g.mbb⟩
noncomputable def QZ (K : W.Frag) (a : Addr) : FuncData := match K.lookup a with | some ⟨_, _, .func fd, _⟩ => fd | _ => default
noncomputable def JY (K : W.Frag) (a : Addr) : Bool := match K.lookup a with | some ⟨_, _, .func _, _⟩ => true | _ => false
noncomputable def Z3 (fd : FuncData) : List Stmt := match fd.body with | .stmts b => b | _ => []
set_option tactic.hygienic true in
theorem VI {G : Gd} (g : Gr G) {a : Addr} (h : JY G.K a = true) : ∃ fo, G.B.get? a = some fo ∧ fo.data = .func (QZ G.K a) := by
 unfold JY at h
 unfold QZ
 split at h
 ·rename_i c d fd sl e
  exact ⟨_, g.ok.K _ _ e, rfl⟩
 ·cases h
section
variable {G : Gd} {k : Nat} {sc : Scope} {x : Str} {p : Pos}
theorem nV (i : Nat) (hx : (Qg sc)[i]? = some x := by kernel_rfl) (hd : (x == ("__debug__" : Str)) = false := by kernel_rfl) (hn : (x == ("__classdict__" : Str)) = false := by kernel_rfl) : Sim G k sc (.Name x p) (XM i) := E3 hx hd hn
theorem nB (i : Nat) (hx : (Qg sc)[i]? = some x := by kernel_rfl) (hd : (x == ("__debug__" : Str)) = false := by kernel_rfl) (hn : (x == ("__classdict__" : Str)) = false := by kernel_rfl) : Qf G k sc (.Name x p) (eOp i) := Ko hx hd hn
theorem gF (g : Gr G) (a : Addr) (e : W.nsIn G.K mainGlobals x = some (some (.ref a)) := by kernel_rfl) (ho : (G.K.lookup a).isSome = true := by kernel_rfl) (hx : sc.names.lookup x = some .globalImplicit := by kernel_rfl) (hd : (x == ("__debug__" : Str)) = false := by kernel_rfl) :
  Sim G k sc (.Name x p) (Qb (.glob (.ref a))) := by
 obtain ⟨o, ho⟩ := Option.isSome_iff_exists.mp ho
 exact OE g.ok hx (W.mg_of g.ok.K g.ok.g e) (fun b q => by cases q; exact ⟨o, g.ok.K _ _ ho⟩) hd
theorem gI (g : Gr G) (i : Int) (t : Tok) (e : W.nsIn G.K mainGlobals x = some (some (.int i t)) := by kernel_rfl) (hx : sc.names.lookup x = some .globalImplicit := by kernel_rfl) (hd : (x == ("__debug__" : Str)) = false := by kernel_rfl) :
  Sim G k sc (.Name x p) (Qb (.int i)) := Vg g.ok hx (W.mg_of g.ok.K g.ok.g e) hd
theorem gB (g : Gr G) (v : Value) (e : W.nsIn G.K mainGlobals x = some none := by kernel_rfl) (hv : bootBuiltins x = some v := by kernel_rfl) (hn : (x == ("__name__" : Str)) = false := by kernel_rfl) (hl : v.isRef = false := by rfl) (hx : sc.names.lookup x = some .globalImplicit := by kernel_rfl) (hd : (x == ("__debug__" : Str)) = false := by kernel_rfl) :
  Sim G k sc (.Name x p) (Qb (.glob v)) :=
 Bp g.ok hx (W.mg_none_of g.ok.K g.ok.g e) ((g.mbb x (by simpa using hn)).trans hv) (fun a q => by subst q; cases hl) hd
variable {args : List Expr} {pos : Pos}
theorem cF (g : Gr G) (a : Addr) {k' : Nat} {F : List D → FOut} {fa : AEnv → Res (List Bv)} (hF : Yd G k' (.ref a) F) (ha : YS G k sc args fa) (hk : k' ≤ k := by decide) (hf : JY G.K a = true := by kernel_rfl) (e : W.nsIn G.K mainGlobals x = some (some (.ref a)) := by kernel_rfl) (ho : (G.K.lookup a).isSome = true := by kernel_rfl) (hx : sc.names.lookup x = some .globalImplicit := by kernel_rfl) (hd : (x == ("__debug__" : Str)) = false := by kernel_rfl) (hu : args.all QO = true := by kernel_rfl) :
  Sim G k sc (.Call (.Name x p) args [] pos) (QV F fa) := by
 obtain ⟨fo, h1, h2⟩ := VI g hf
 exact EM (gF g a e ho hx hd) h1 h2 hF hk ha hu
theorem cB (g : Gr G) (v : Value) {F : List D → Option T} {fa : AEnv → Res (List Bv)} (hop : OpN G (fun vs => call v vs []) F) (ha : YS G k sc args fa) (e : W.nsIn G.K mainGlobals x = some none := by kernel_rfl) (hv : bootBuiltins x = some v := by kernel_rfl) (hn : (x == ("__name__" : Str)) = false := by kernel_rfl) (hl : v.isRef = false := by rfl) (hx : sc.names.lookup x = some .globalImplicit := by kernel_rfl) (hd : (x == ("__debug__" : Str)) = false := by kernel_rfl) (hu : args.all QO = true := by kernel_rfl) :
  Sim G k sc (.Call (.Name x p) args [] pos) (Xc F fa) := D4 (gB g v e hv hn hl hx hd) (fun a q => by subst q; cases hl) hop ha hu
theorem aC {e : Expr} {rest : List Expr} {f : AEnv → Res Bv} {h : AEnv → Res (List Bv)} (he : Qf G k sc e f) (hr : YS G k sc rest h) (hs : QO e = true := by kernel_rfl) : YS G k sc (e :: rest) (Qa f h) := Cq he hr hs
theorem vC {e : Expr} {rest : List Expr} {f : AEnv → Res T} {h : AEnv → Res (List D)} (he : Sim G k sc e f) (hr : W2 G k sc rest h) (hs : QO e = true := by kernel_rfl) : W2 G k sc (e :: rest) (Qp f h) := CO he hr hs
theorem Em {l r : Expr} {op : CmpOp} {f h : AEnv → Res Bv} {F : D → D → Option T} (hl : Qf G k sc l f) (hr : Qf G k sc r h) (hop : Op2 G (compareOp op) F) (hm : behindInMarks op r = false := by kernel_rfl) : Sim G k sc (.Compare l [op] [r] pos) (Qq F f h) := VT hl hr hop hm
theorem Y3 {l r : Expr} {op : CmpOp} {f h : AEnv → Res Bv} {F : D → D → Option T} (hl : Qf G k sc l f) (hr : Qf G k sc r h) (hop : Op2 G (compareOp op) F) (hm : behindInMarks op r = false := by kernel_rfl) : JI G k sc (.Compare l [op] [r] pos) (Q9 F f h) := Vc hl hr hop hm
theorem chT {l m r : Expr} {op op' : CmpOp} {f g h : AEnv → Res Bv} {F F' : D → D → Option T} (hl : Qf G k sc l f) (hm : Qf G k sc m g) (hr : Qf G k sc r h) (hop : Op2 G (compareOp op) F) (hop' : Op2 G (compareOp op') F') (hb : behindInMarks op' r = false := by kernel_rfl) : JI G k sc (.Compare l [op, op'] [m, r] pos) (Y7 F F' f g h) := CA hl hm hr hop hop' hb
theorem Yk {fn : Expr} {f : AEnv → Res Bv} (h : Qf G k sc (.Call fn args [] pos) f) : JI G k sc (.Call fn args [] pos) (Xm f) := BK h fun _ _ => rfl
theorem G5 {f : AEnv → Res Bv} (h : Qf G k sc (.Name x p) f) : JI G k sc (.Name x p) (Xm f) := BK h fun _ _ => rfl
theorem sub {value slice : Expr} {f g : AEnv → Res Bv} (hl : Qf G k sc value f) (hr : Qf G k sc slice g) (hs : ∀ o i, subscripted slice false o i = operate [o, i] (getItem o i) := by intro _ _; rfl) : Sim G k sc (.Subscript value slice pos) (Qq QT f g) := Vi hl hr hs
theorem asg {value : Expr} {f : AEnv → Res T} (i : Nat) (h : Sim G k sc value f) (hx : (Qg sc)[i]? = some x := by kernel_rfl) (hk : (sc.names.lookup x == some .local || sc.names.lookup x == some .cell) = true := by kernel_rfl) (hcl : Xn x = false := by kernel_rfl) (hs : ∀ env : Env, swapsWith value (some (.Name x p)) pos.line env = pure false := by intro _; rfl) : Jd G k sc (.Assign [.Name x p] value pos) (Qy i f) :=
 Bq h hx (by simpa using hk) hcl fun env _ => hs env
theorem GY (i : Nat) (hx : (Qg sc)[i]? = some x := by kernel_rfl) (hd : (x == ("__debug__" : Str)) = false := by kernel_rfl) (hn : (x == ("__classdict__" : Str)) = false := by kernel_rfl) : Jd G k sc (.Return (some (.Name x p)) pos) (U1 i) := O0 hx hd hn
theorem CR (g : Gr G) (C : Addr) {np cpos : Pos} {bm : List Value} {newId Bn initId : String} {fa : AEnv → Res (List D)} (FB : ExcBaseFacts Bn newId initId bm) (ha : W2 G k sc args fa) (hq : G.quiet = true := by rfl) (e : W.nsIn G.K mainGlobals x = some (some (.ref C)) := by kernel_rfl) (q : W.excIn G.K C bm newId = true := by kernel_rfl) (hx : sc.names.lookup x = some .globalImplicit := by kernel_rfl) (hd : (x == ("__debug__" : Str)) = false := by kernel_rfl) (hu : args.all QO = true := by kernel_rfl) :
  Jd G k sc (.Raise (some (.Call (.Name x np) args [] cpos)) none pos) (Jv C fa) := by
 obtain ⟨_, _, tr⟩ := g.tr
 exact Cw g.ok hq (W.own_of_in g.ok.K tr e q) FB hx hd ha hu
theorem Hc (g : Gr G) (C' : Addr) (i : Nat) {body suite : List Stmt} {b₀ : Stmt} {n : Str} {np hp : Pos} {f h : AEnv → Res Fl} (hb : Yt G k sc body f) (hs : Yt G.loud k sc (b₀ :: suite) h) (hq : G.quiet = true := by rfl) (e : W.nsIn G.K mainGlobals x = some (some (.ref C')) := by kernel_rfl) (ho : (G.K.lookup C').isSome = true := by kernel_rfl) (hgx : sc.names.lookup x = some .globalImplicit := by kernel_rfl) (hd : (x == ("__debug__" : Str)) = false := by kernel_rfl)
  (hx : (Qg sc)[i]? = some n := by kernel_rfl) (hk : sc.names.lookup n = some .local := by kernel_rfl) (hdn : Xn n = true := by kernel_rfl) (hty : W.typeIn G.K (.ref C') = some (.type "type") := by kernel_rfl) (hcl : (W.clsIn G.K C').isSome = true := by kernel_rfl) (hbe : W.mroIn G.K C' (.type "BaseException") = some true := by kernel_rfl) :
  Jd G k sc (.Try body [.ExceptHandler (some (.Name x np)) (some n) (b₀ :: suite) hp] [] [] pos) (DV G.K C' i f h) := Fd g.ok hq hb hs (gF g.loud C' e ho hgx hd) hx hk hdn hty hcl hbe
theorem exM {e : Expr} {f : AEnv → Res T} (h : J4 G k sc e f) (hs : ∀ env : Env, swapsWith e none pos.line env = pure false := by intro _; rfl) : Jd G k sc (.Expr e pos) (Zb (Qd f)) := CQ h hs
theorem Es {apos : Pos} {e : Expr} {f : AEnv → Res T} (i : Nat) (he : J4 G k sc e f) (hx : (Qg sc)[i]? = some x := by kernel_rfl) (hd : (x == ("__debug__" : Str)) = false := by kernel_rfl) (hn : (x == ("__classdict__" : Str)) = false := by kernel_rfl) (hu : ∀ env, backTo pos (starEach [e] env) = [(false, eval e env)] := by intro _; rfl) (hline : (apos.endLine == pos.line) = true := by rfl) : J4 G k sc (.Call (.Attribute (.Name x p) "append" apos) [e] [] pos) (ZP i f) := Cz he hx hd hn hu hline
theorem He {apos : Pos} {e : Expr} {f : AEnv → Res Bv} (i : Nat) (he : Qf G k sc e f) (hx : (Qg sc)[i]? = some x := by kernel_rfl) (hd : (x == ("__debug__" : Str)) = false := by kernel_rfl) (hn : (x == ("__classdict__" : Str)) = false := by kernel_rfl) (hu : ∀ env, backTo pos (starEach [e] env) = [(false, eval e env)] := by intro _; rfl) (hline : (apos.endLine == pos.line) = true := by rfl) : J4 G k sc (.Call (.Attribute (.Name x p) "pop" apos) [e] [] pos) (DT i f) := FC he hx hd hn hu hline
theorem G6 {ip : Pos} {ix value : Expr} {f : AEnv → Res Bv} {g : AEnv → Res T} (i : Nat) (hf : Qf G k sc ix f) (hg : Sim G k sc value g) (hx : (Qg sc)[i]? = some x := by kernel_rfl) (hd : (x == ("__debug__" : Str)) = false := by kernel_rfl) (hn : (x == ("__classdict__" : Str)) = false := by kernel_rfl)
  (hs : ∀ env : Env, swapsWithSole [.Subscript (.Name x p) ix ip] value pos.line env = pure false := by intro _; rfl) (hw : ∀ env : Env, swappedStores [.Subscript (.Name x p) ix ip] value env = pure none := by intro _; rfl) : Jd G k sc (.Assign [.Subscript (.Name x p) ix ip] value pos) (YA i f g) := Bd hf hg hx hd hn (fun env _ => hs env) hw
theorem tgN (i : Nat) (hx : (Qg sc)[i]? = some x := by kernel_rfl) : KZ G sc (.Name x p) [x] (XG i) := VJ hx
theorem GO {y : Str} {py tp : Pos} {n : Nat} (i j : Nat) (hx : (Qg sc)[i]? = some x := by kernel_rfl) (hy : (Qg sc)[j]? = some y := by kernel_rfl) : KZ G sc (.Tuple [.Name x p, .Name y py] n tp) [x, y] (Y6 [i, j]) := O1 (.cons hx (.cons hy .nil))
theorem K3 {tg iter : Expr} {body : List Stmt} {src : AEnv → Res (List D)} {xs : List Str} {b : D → AEnv → Option AEnv} {f : AEnv → Res Fl} (hi : Vo G k sc tg iter src) (ht : KZ G sc tg xs b) (hb : Yt G k sc body f) (hxs : (xs.all fun x => sc.names.lookup x == some .local || sc.names.lookup x == some .cell) = true := by kernel_rfl)
  (hs : ∀ env x, foldedSetIterable iter env x = pure x := by intro _ _; rfl) : Jd G k sc (.For tg iter body [] pos) (UY src b f) := Fi hi ht (fun x hx => by simpa using List.all_eq_true.mp hxs x hx) hb hs
theorem enu (g : Gr G) {es : List Expr} {n : Nat} {tp : Pos} {e : Expr} {f : AEnv → Res T} (h : Sim G k sc e f) (hq : G.quiet = true := by rfl) (he : W.nsIn G.K mainGlobals ("enumerate" : Str) = some none := by kernel_rfl) (hx : sc.names.lookup ("enumerate" : Str) = some .globalImplicit := by kernel_rfl) (hu : QO e = true := by kernel_rfl) : Vo G k sc (.Tuple es n tp) (.Call (.Name "enumerate" p) [e] [] pos) (Bu f) :=
 DQ hq (gB g (.type "enumerate") he (by kernel_rfl) (by kernel_rfl) rfl hx (by kernel_rfl)) h hu
end
noncomputable def EY (sc csc : Scope) : List (Option Nat) := (Qg (QB csc sc)).map fun x => if csc.names.lookup x == some .free then (Qg sc).findIdx? (· == x) else none
noncomputable def Uu (ρ : AEnv) : List (Option Nat) → Option AEnv
 | [] => some []
 | none :: r => (Uu ρ r).map (none :: ·)
 | some i :: r => match ρ[i]? with
  | some (some t) => (Uu ρ r).map (some t.weak :: ·)
  | _ => none
noncomputable def WR (sc csc : Scope) : Bool := csc.names.all fun x => x.2 != .free || ((Qg sc).findIdx? (· == x.1)).isSome
theorem Bh {sc csc : Scope} {ρ : AEnv} (hf : WR sc csc = true) : ∀ (l : List Str), KV sc csc ρ l = Uu ρ (l.map fun x => if csc.names.lookup x == some .free then (Qg sc).findIdx? (· == x) else none)
 | [] => rfl
 | x :: r => by
  rw [KV, List.map_cons, Bh hf r]
  unfold U0
  by_cases hx : (csc.names.lookup x == some .free) = true
  ·rw [if_pos hx, if_pos hx]
   have := List.all_eq_true.mp hf (x, .free) (Yw (beq_iff_eq.mp hx))
   simp only [bne_self_eq_false, Bool.false_or] at this
   obtain ⟨i, hi⟩ := Option.isSome_iff_exists.mp this
   rw [hi]
   simp only
   generalize List.map _ r = l'
   rw [Uu]
   cases hr : ρ[i]? with
   | none => cases hq : Uu ρ l' <;> rfl
   | some u =>
    cases u with
    | none => cases hq : Uu ρ l' <;> rfl
    | some t => cases hq : Uu ρ l' <;> rfl
  ·rw [if_neg hx, if_neg hx, Uu]
   generalize List.map _ r = l'
   cases hq : Uu ρ l' <;> rfl
noncomputable def JW (cap : List (Option Nat)) (src : AEnv → Res (List D)) (b : D → AEnv → Option AEnv) (t : AEnv → Res Bool) (f : AEnv → Res T) : AEnv → Res T := fun ρ => match Uu ρ cap with
 | none => .stuck
 | some _ => match src ρ with
  | .ok ds ρ₁ => (match Uu ρ₁ cap with
   | some ρ₀ => (match YG b t f ρ₀ ds [] with
    | some out => .ok (.ow true (.list out)) ρ₁
    | none => .stuck)
   | none => .stuck)
  | _ => .stuck
theorem VM {sc csc : Scope} {cap : List (Option Nat)} {src : AEnv → Res (List D)} {b : D → AEnv → Option AEnv} {t : AEnv → Res Bool} {f : AEnv → Res T} (hf : WR sc csc = true) (hc : EY sc csc = cap) : WW sc csc src b t f = JW cap src b t f := by
 funext ρ
 unfold WW JW
 rw [Bh hf, show (Qg (QB csc sc)).map _ = cap from hc]
 cases Uu ρ cap with
 | none => rfl
 | some _ =>
  simp only
  cases src ρ with
  | ok ds ρ₁ =>
   simp only
   rw [Bh hf, show (Qg (QB csc sc)).map _ = cap from hc]
   all_goals rfl
  | exc _ _ => rfl
  | stuck => rfl
section
variable {G : Gd} {k : Nat} {sc csc : Scope} {tg iter elt : Expr} {ifs : List Expr} {pos : Pos} {xs : List Str} {src : AEnv → Res (List D)} {b : D → AEnv → Option AEnv} {t : AEnv → Res Bool} {f : AEnv → Res T}
theorem lc (cap : List (Option Nat)) (hi : Vo G k sc tg iter src) (ha : KZ G (QB csc sc) tg xs b) (ht : KM G k (QB csc sc) ifs t) (he : Sim G k (QB csc sc) elt f) (hxs : (xs.all fun x => csc.names.lookup x == some .local || csc.names.lookup x == some .cell) = true := by kernel_rfl) (hok : JV sc csc = true := by kernel_rfl) (hfd : WR sc csc = true := by kernel_rfl) (hc : EY sc csc = cap := by kernel_rfl)
  (hs : ∀ env x, foldedSetIterable iter env x = pure x := by intro _ _; rfl) : Sim G k sc (.ListComp elt [⟨tg, iter, ifs, 0⟩] csc pos) (JW cap src b t f) := by
 rw [← VM hfd hc]
 exact VQ hi ha (fun x hx => by simpa using List.all_eq_true.mp hxs x hx) ht he hok hs
theorem CN {y : Str} {yp : Pos} {l : Nat} (hk : sc.kind = .function) (hy : sc.names.lookup y = some .local) (hl : (yp.line == pos.line) = true) (hn : (csc.names.any fun (n, k) => n == y && (k == .local || k == .cell)) = false) (env : Env) (he : env.scope = sc) : swapsWith (.ListComp elt [⟨tg, iter, ifs, 0⟩] csc pos) (some (.Name y yp)) l env = pure true := by
 show (pure (env.blockKind == .function && env.kindOf y == some .local && yp.line == pos.line && !(csc.names.any fun (n, k) => n == y && (k == .local || k == .cell))) : Sem Bool) = _
 have h1 : env.blockKind = .function := by
  unfold Env.blockKind
  rw [he, hk]
  rfl
 have h2 : env.kindOf y = some .local := by unfold Env.kindOf; rw [he]; exact hy
 rw [h1, h2, hl, hn]
 rfl
theorem GL {y : Str} {yp spos : Pos} (i : Nat) (cap : List (Option Nat)) (hi : Vo G k sc tg iter src) (ha : KZ G (QB csc sc) tg xs b) (ht : KM G k (QB csc sc) ifs t) (he : Sim G k (QB csc sc) elt f) (hxs : (xs.all fun x => csc.names.lookup x == some .local || csc.names.lookup x == some .cell) = true := by kernel_rfl) (hok : JV sc csc = true := by kernel_rfl) (hfd : WR sc csc = true := by kernel_rfl) (hc : EY sc csc = cap := by kernel_rfl)
  (hs : ∀ env x, foldedSetIterable iter env x = pure x := by intro _ _; rfl) (hy : (Qg sc)[i]? = some y := by kernel_rfl) (hk : sc.names.lookup y = some .local := by kernel_rfl) (hcl : Xn y = false := by kernel_rfl) (hkk : sc.kind = .function := by kernel_rfl) (hl : (yp.line == pos.line) = true := by rfl) (hn : (csc.names.any fun (n, k) => n == y && (k == .local || k == .cell)) = false := by kernel_rfl) :
  Jd G k sc (.Assign [.Name y yp] (.ListComp elt [⟨tg, iter, ifs, 0⟩] csc pos) spos) (Qy i (JW cap src b t f)) := by
 rw [← VM hfd hc]
 exact K2 hi ha (fun x hx => by simpa using List.all_eq_true.mp hxs x hx) ht he hok hs hy hk hcl (CN hkk hk hl hn)
end
noncomputable def Wg (n : Nat) (is : List Nat) (ds : List D) : AEnv := (List.range n).map fun j => ((is.zip ds).lookup j).map T.sh
noncomputable def YC (n : Nat) (is : List Nat) (f : AEnv → Res Fl) (ds : List D) : FOut := if ds.length = is.length then DE (f (Wg n is ds)) else .stuck
noncomputable def Yv (vn ps : List Str) : List Nat := ps.map fun p => (vn.findIdx? (· == p)).getD vn.length
theorem Op {vn : List Str} (nd : vn.Nodup) {j : Nat} {x : Str} (hx : vn[j]? = some x) : ∀ (ps : List Str) (ds : List D), (ps.all fun p => vn.contains p) = true → (ps.zip ds).lookup x = ((Yv vn ps).zip ds).lookup j
 | [], _, _ => rfl
 | p :: ps, [], _ => by simp [Yv]
 | p :: ps, d :: ds, h => by
  rw [List.all_cons, Bool.and_eq_true_iff] at h
  have hp : p ∈ vn := by simpa using h.1
  obtain ⟨i, hi⟩ : ∃ i, vn.findIdx? (· == p) = some i := by
   cases q : vn.findIdx? (· == p) with
   | some i => exact ⟨i, rfl⟩
   | none => exact absurd (List.findIdx?_eq_none_iff.mp q p hp) (by simp)
  obtain ⟨h1, h2, _⟩ := List.findIdx?_eq_some_iff_getElem.mp hi
  have h2 : vn[i] = p := beq_iff_eq.mp h2
  have e : Yv vn (p :: ps) = i :: Yv vn ps := by unfold Yv; rw [List.map_cons, hi]; rfl
  rw [e, List.zip_cons_cons, List.zip_cons_cons, List.lookup_cons, List.lookup_cons, Op nd hx ps ds h.2]
  obtain ⟨j1, j2⟩ := List.getElem?_eq_some_iff.mp hx
  by_cases hxp : x = p
  ·have : j = i := (List.getElem_inj nd).mp (j2.trans (hxp.trans h2.symm))
   simp [hxp, this]
  ·have hji : ¬ j = i := fun q => hxp (by subst q; exact j2.symm.trans h2)
   have a1 : (x == p) = false := by simpa using hxp
   have a2 : (j == i) = false := by simpa using hji
   rw [a1, a2]
theorem OK {sc : Scope} {ps : List Str} {ds : List D} (nd : (Qg sc).Nodup) (hp : (ps.all fun p => (Qg sc).contains p) = true) : Yy sc ps ds = Wg (Qg sc).length (Yv (Qg sc) ps) ds := by
 unfold Yy Wg
 apply List.ext_getElem?
 intro j
 rw [List.getElem?_map, List.getElem?_map]
 cases hx : (Qg sc)[j]? with
 | none => rw [List.getElem?_eq_none (by rw [List.length_range]; exact List.getElem?_eq_none_iff.mp hx)]; rfl
 | some x =>
  rw [List.getElem?_range (List.getElem?_eq_some_iff.mp hx).1]
  simp only [Option.map_some]
  rw [Op nd hx ps ds hp]
noncomputable def Xe (fd : FuncData) : List Str := fd.params.args.map (·.arg)
noncomputable def JM (fd : FuncData) : Bool := (match fd.body with | .stmts _ => true | _ => false) && fd.closure.isEmpty && fd.globals == mainGlobals && fd.builtins == builtinsNs && UM (Qg fd.scope) && UM (Xe fd) &&
 (Xe fd).all (fun p => (Qg fd.scope).contains p && (fd.scope.names.lookup p == some .local || fd.scope.names.lookup p == some .cell)) && fd.scope.kind == .function && !fd.scope.isCoroutine && !fd.scope.isGenerator
set_option tactic.hygienic true in
theorem fnI {G : Gd} (g : Gr G) {k : Nat} (a : Addr) (n : Nat) (is : List Nat) {f : AEnv → Res Fl} (h : Yt G k (QZ G.K a).scope (Z3 (QZ G.K a)) f) (hbind : ∀ vs : List Value, vs.length = (Xe (QZ G.K a)).length → bindArgs (QZ G.K a) ⟨vs, []⟩ = pure ((Xe (QZ G.K a)).zip vs))
  (hf : JY G.K a = true := by kernel_rfl) (hc : W.codeIn G.K (QZ G.K a).code (QZ G.K a).qualname = true := by kernel_rfl) (hpl : JM (QZ G.K a) = true := by kernel_rfl) (hn : (Qg (QZ G.K a).scope).length = n := by kernel_rfl) (hi : Yv (Qg (QZ G.K a).scope) (Xe (QZ G.K a)) = is := by kernel_rfl) :
  Yd G (k + 1) (.ref a) (YC n is f) := by
 obtain ⟨fo, h1, h2⟩ := VI g hf
 unfold JM at hpl
 simp only [Bool.and_eq_true, beq_iff_eq, Bool.not_eq_true'] at hpl
 obtain ⟨⟨⟨⟨⟨⟨⟨⟨⟨p1, p2⟩, p3⟩, p4⟩, p5⟩, p6⟩, p7⟩, p8⟩, p9⟩, p10⟩ := hpl
 have p7' : ∀ x ∈ Xe (QZ G.K a), (Qg (QZ G.K a).scope).contains x = true ∧ ((QZ G.K a).scope.names.lookup x = some .local ∨ (QZ G.K a).scope.names.lookup x = some .cell) := fun x hx => by
  have := List.all_eq_true.mp p7 x hx
  simpa using this
 have hb : (QZ G.K a).body = .stmts (Z3 (QZ G.K a)) := by
  unfold Z3
  split at p1
  ·rename_i b e; rw [e]
  ·cases p1
 have := GR g.ok (ps := Xe (QZ G.K a)) h1 h2 (W.codeRec_of g.ok.K hc) hb (by simpa using p2) p3 p4 hbind (fun x hx => (p7' x hx).2) (X3 p6) (X3 p5) p8 p9 p10 h
 have e : F2 (QZ G.K a).scope (Xe (QZ G.K a)) f = YC n is f := by
  funext ds
  unfold F2 YC
  rw [OK (X3 p5) (List.all_eq_true.mpr fun x hx => (p7' x hx).1), hn, hi]
  have hl : is.length = (Xe (QZ G.K a)).length := by rw [← hi]; unfold Yv; simp
  rw [hl]
 rw [e] at this
 exact this
theorem O8 {P : List Value → Prop} {n : Nat} (H : ∀ a, P [a]) (hn : n = 1 := by kernel_rfl) (vs : List Value) (h : vs.length = n) : P vs := by
 subst hn
 obtain ⟨a, rfl⟩ := List.length_eq_one_iff.mp h
 exact H a
theorem KY {P : List Value → Prop} {n : Nat} (H : ∀ a b, P [a, b]) (hn : n = 2 := by kernel_rfl) (vs : List Value) (h : vs.length = n) : P vs := by
 subst hn
 cases vs with
 | nil => cases h
 | cons a vs => exact O8 (P := fun vs => P (a :: vs)) (H a) rfl vs (Nat.succ.inj h)
theorem F6 {P : List Value → Prop} {n : Nat} (H : ∀ a b c, P [a, b, c]) (hn : n = 3 := by kernel_rfl) (vs : List Value) (h : vs.length = n) : P vs := by
 subst hn
 cases vs with
 | nil => cases h
 | cons a vs => exact KY (P := fun vs => P (a :: vs)) (H a) rfl vs (Nat.succ.inj h)
theorem Gi {P : List Value → Prop} {n : Nat} (H : ∀ a b c d, P [a, b, c, d]) (hn : n = 4 := by kernel_rfl) (vs : List Value) (h : vs.length = n) : P vs := by
 subst hn
 cases vs with
 | nil => cases h
 | cons a vs => exact F6 (P := fun vs => P (a :: vs)) (H a) rfl vs (Nat.succ.inj h)
theorem Gp {P : List Value → Prop} {n : Nat} (H : ∀ a b c d e, P [a, b, c, d, e]) (hn : n = 5 := by kernel_rfl) (vs : List Value) (h : vs.length = n) : P vs := by
 subst hn
 cases vs with
 | nil => cases h
 | cons a vs => exact Gi (P := fun vs => P (a :: vs)) (H a) rfl vs (Nat.succ.inj h)
end Mine
end

section
set_option Elab.async false
set_option maxRecDepth 100000
namespace Mine
open PySem PyProof.Rows
section
variable {prog : Program} {w : World} {A : Around} {E : Value → Shared → Prop} {s : Shared}
end
end Mine
end

section
set_option Elab.async false
set_option maxRecDepth 100000
namespace Mine
open PySem PyProof.Rows
end Mine
end

section
set_option Elab.async false
set_option maxRecDepth 100000
namespace Mine
open PySem PyProof.Rows
section
variable {prog : Program} {w : World} {A : Around} {E : Value → Shared → Prop} {s : Shared}
end
section
variable {G : Gd} {A : Around} {tg : Expr}
end
end Mine
end

section
set_option Elab.async false
set_option maxRecDepth 100000
namespace Mine
open PySem PyProof.Rows
end Mine
end

section
set_option Elab.async false
set_option maxRecDepth 100000
namespace Mine
open PySem PyProof.Rows PySem.Spec
section
variable {prog : Program} {w : World} {A : Around} {E : Value → Shared → Prop} {s : Shared}
end
end Mine
end

section
set_option Elab.async false
set_option maxRecDepth 100000
namespace Mine
open PySem
section
variable {prog : Program} {w : World} {S : Addr → Prop} {h : Heap}
end
section
variable {prog : Program} {w : World} {A : Around} {E : Value → Shared → Prop} {s : Shared} {S : Addr → Prop} {d a : Addr} {k : List Int} {ks : List (List Int)} {ds : List D}
structure DStored (S : Addr → Prop) (h : Heap) (d : Addr) (ks' : List (List Int)) (vs' : List Value) (h' : Heap) : Prop where
 but : Heap.SameBut d h h'
 obj : ∃ o es n, h.get? d = some o ∧ o.data = .dict es n
 obj' : ∃ o' es' n', h'.get? d = some o' ∧ o'.data = .dict es' n'
 at_ : ∀ ds', Ext S h S h' → RVs S h vs' ds' → DictAt S h' d ks' ds'
end
end Mine
end

section
set_option Elab.async false
set_option maxRecDepth 100000
namespace Mine
open PySem PyProof.Rows
section
variable {G : Gd} {cx : Cx} {sc : Scope} {ρ : AEnv} {S : Addr → Prop} {h : Heap} {k : Nat}
end
section
variable {G : Gd} {k : Nat} {sc : Scope}
theorem BX {o : Obj} {es : Array DictEntry} {n : Nat} (h : o.data = .dict es n) : ¬ Imm o := by
 rintro (⟨_, vs, m, q⟩ | ⟨vs, q⟩) <;> (rw [h] at q; cases q)
end
end Mine
end

section
set_option Elab.async false
set_option maxRecDepth 100000
namespace Mine
open PySem PyProof.Rows
theorem VL {h : Heap} {dx : Addr} {o : Obj} {m : Str → Option Value} (hn : h.Ns dx m) (e : h.get? dx = some o) (n : Str) : W.lookIn n o = some (m n) := by
 obtain ⟨o', es, ep, e', hd, sk, hf⟩ := hn
 rw [e] at e'; cases e'
 unfold W.lookIn
 rw [hd]
 have hf := hf n
 unfold nsFind findBy at hf
 rw [← Array.find?_toList] at hf
 dsimp only
 cases q : es.toList.find? (fun e => e.key.isStr n) with
 | some en => rw [q] at hf; exact congrArg some hf
 | none =>
  rw [q] at hf
  dsimp only
  rw [if_neg]
  ·exact congrArg some hf
  ·intro hr
   obtain ⟨en, hm, hk⟩ := List.any_eq_true.mp hr
   obtain ⟨n', t, hk'⟩ := sk en (Array.mem_toList_iff.mp hm)
   unfold DictEntry.refKey at hk
   rw [hk'] at hk
   cases hk
noncomputable def Ol (n : Str) : List Str → List D → Option D
 | x :: xs, d :: ds => if x = n then some d else Ol n xs ds
 | _, _ => none
noncomputable def WZ : D → Bool
 | .glob _ => false
 | _ => true
set_option tactic.hygienic true in
theorem E4 {S : Addr → Prop} {h : Heap} {m : Str → Option Value} {n : Str} {d : D} : ∀ {ns : List Str} {vs : List Value} {ds : List D}, ns.map m = vs.map some → RVs S h vs ds → Ol n ns ds = some d → ∃ v, m n = some v ∧ RV S h v d := by
 intro ns
 induction ns with
 | nil => intro vs ds _ _ e; cases e
 | cons x xs ih =>
  intro vs ds hm rv e
  cases rv with
  | nil => cases e
  | cons q r =>
   simp only [List.map_cons, List.cons.injEq] at hm
   rw [Ol] at e
   split at e
   ·rename_i hx; cases e; subst hx; exact ⟨_, hm.1, q⟩
   ·exact ih hm.2 r e
theorem RV.inst {S : Addr → Prop} {h : Heap} {v : Value} {C : Addr} {ns : List Str} {ds : List D} (q : RV S h v (.obj C ns ds)) : ∃ a dx od m vs, v = .ref a ∧ h.get? dx = some od ∧ h.Ns dx m ∧ (ns.map m = vs.map some ∧ ∀ y, y ∉ ns → m y = Option.none) ∧ RVs S h vs ds ∧ W.InstAt h a (W.instObj C dx) C (some od) := by
 cases q with
 | obj s1 s2 e n hm r =>
  obtain ⟨o, es, ep, ho, hd, rest⟩ := n
  exact ⟨_, _, o, _, _, rfl, ho, ⟨o, es, ep, ho, hd, rest⟩, hm, r, e, rfl, rfl, ho⟩
theorem RV.handed {S : Addr → Prop} {h : Heap} {v : Value} {d : D} (q : RV S h v d) (hg : WZ d = true) : W.handedIn v = true := by
 cases q <;> first | rfl | cases hg
theorem BN {K : W.Frag} {C : Addr} {o : Obj} {n : Str} {v : Value} (hc : (W.clsIn K C).any (·.hasDict) = true) (hf : W.findIn K (.ref C) n = some none) (hl : W.lookIn n o = some (some v)) : W.findObj K C (some o) n = some (.value v) := by
 obtain ⟨cd, hcd, hd⟩ := W.any_some hc
 unfold W.findObj W.ownOf
 rw [hcd, hf]
 simp [hd, hl]
section
variable {G : Gd} {k : Nat} {sc : Scope}
noncomputable def Jq (C : Addr) (n : Str) (i : Nat) : AEnv → Res T := fun ρ => match ρ[i]? with
 | some (some (.sh (.obj C' ns ds))) => if C' = C then (match Ol n ns ds with
  | some d => if WZ d then .ok (.sh d) ρ else .stuck
  | none => .stuck) else .stuck
 | _ => .stuck
set_option tactic.hygienic true in
theorem E9 (hG : G.Ok) {C : Addr} {n x : Str} {p pos : Pos} {i : Nat} (hx : (Qg sc)[i]? = some x := by kernel_rfl) (hd : (x == ("__debug__" : Str)) = false := by kernel_rfl) (hn : (x == ("__classdict__" : Str)) = false := by kernel_rfl)
  (hga : W.findIn G.K (.ref C) "__getattribute__" = some (some (.builtin "object.__getattribute__")) := by kernel_rfl) (hc : (W.clsIn G.K C).any (·.hasDict) = true := by kernel_rfl) (hf : W.findIn G.K (.ref C) n = some none := by kernel_rfl) :
  Sim G k sc (.Attribute (.Name x p) n pos) (Jq C n i) := by
 intro cx ok ρ S s r Q E out
 unfold Jq at out
 split at out
 ·rename_i C' ns ds ht
  split at out
  ·rename_i hC
   subst hC
   split at out
   ·rename_i d hd'
    split at out
    ·rename_i hg
     obtain ⟨v, hv, tv⟩ := r.vars i x _ hx ht
     obtain ⟨a, dx, od, m, vs, rfl, e2, e3, e4, rv, I⟩ := RV.inst tv
     obtain ⟨u, hu, ru⟩ := E4 e4.1 rv hd'
     rw [arm_eval_Attribute]
     show wpAny _ _ (eval (.Name x p) cx.env >>= _) _ _ _
     refine wpAny_bind (wpAny_Name (Zr (ok.mono (Nat.zero_le _)) hv hn rfl ?_) hd)
     refine wpAny_bind (wpAny_standAt (wpAny_bind (wpAny_holding (W.get_value (hG.K.keeps r.base) I hga (BN hc hf (by rw [VL e3 e2, hu])) (ru.handed hg) ?_))))
     exact wpAny_bind (wpAny_pure (wpAny_pure (out u s.heap _ S r ru (Ext.refl ..) fun _ => QA.refl _ _)))
    ·exact out.elim
   ·exact out.elim
  ·exact out.elim
 ·exact out.elim
noncomputable def JK (C : Addr) (n : Str) (i : Nat) (F : List D → FOut) (fa : AEnv → Res (List Bv)) : AEnv → Res T := fun ρ => match ρ[i]? with
 | some (some (.sh (.obj C' ns _))) => if C' = C ∧ n ∉ ns then (fa ρ).bind fun bs ρ₁ => (match X0 ρ₁ (.var i :: bs) with
  | some ds => YO (.var i :: bs) ρ₁ (F ds)
  | none => .stuck) else .stuck
 | _ => .stuck
set_option tactic.hygienic true in
theorem FD (hG : G.Ok) {C f : Addr} {n x : Str} {p apos pos : Pos} {i k' : Nat} {fo : Obj} {fd : FuncData} {F : List D → FOut} {args : List Expr} {fa : AEnv → Res (List Bv)} (hF : Yd G k' (.ref f) F) (hk : k' ≤ k) (hfo : G.B.get? f = some fo) (hfd : fo.data = .func fd) (ha : YS G k sc args fa) (hu : args.all QO = true)
  (hx : (Qg sc)[i]? = some x) (hd : (x == ("__debug__" : Str)) = false) (hn : (x == ("__classdict__" : Str)) = false)
  (hfew : ∀ env, ((backTo pos (starEach args env)).all (fun x => !x.1) && (backToKw pos (keywordEach [] env)).all (fun x => x.1.isSome) && decide (args.length + ([] : List Keyword).length + (if ([] : List Keyword).isEmpty then 0 else 1) < 30)) = true) (hline : (apos.endLine == pos.line) = true)
  (hga : W.findIn G.K (.ref C) "__getattribute__" = some (some (.builtin "object.__getattribute__"))) (hgt : W.findIn G.K (.ref C) "__getattr__" = some none) (hf : W.findIn G.K (.ref C) n = some (some (.ref f))) (hty : W.typeIn G.K (.ref f) = some (.type "function")) :
  Sim G k sc (.Call (.Attribute (.Name x p) n apos) args [] pos) (JK C n i F fa) := by
 intro cx ok ρ S s r Q E out
 unfold JK at out
 split at out
 ·rename_i C' ns ds ht
  split at out
  ·rename_i hC
   obtain ⟨rfl, hns⟩ := hC
   obtain ⟨v, hv, tv⟩ := r.vars i x _ hx ht
   obtain ⟨a, dx, od, m, vs, rfl, e2, e3, e4, rv, I⟩ := RV.inst tv
   rw [arm_eval_Call]
   show wpAny _ _ (eval (.Name x p) cx.env >>= _) _ _ _
   refine wpAny_bind (wpAny_Name (Zr (ok.mono (Nat.zero_le _)) hv hn rfl ?_) hd)
   refine wpAny_bind (wpAny_standAt ?_)
   have hform : methodCallForm (args.length + ([] : List Keyword).length) (backTo pos (starEach args cx.env)) (backToKw pos (keywordEach [] cx.env)) = true := hfew cx.env
   have hpos : methodCallPos true (.Name x p) cx.env apos pos = pure pos := by unfold methodCallPos; simp [hline]
   unfold methodCall
   rw [hform]
   refine wpAny_bind (wpAny_holding (W.method_fn (hG.K.keeps r.base) I hga hgt hf hty (by show Option.map _ (W.lookIn n od) = _; rw [VL e3 e2, e4.2 n hns]; rfl) ?_))
   refine wpAny_bind (wpAny_of_eq hpos ?_)
   refine Calls.callWith_function (o := fo) (fd := fd) (Zy hu ?_)
   refine ha pos cx ok ρ S s r _ _ ?_
   refine out.step0 fun bs ρ' out ws h₂ t₂ S₂ r₂ j₂ x₂ v₂ => ?_
   refine ⟨⟨r₂.base _ _ hfo, hfd⟩, ?_⟩
   split at out
   ·rename_i es hes
    refine Ox (s := { s with heap := h₂, toks := t₂ }) hF ok hk r₂ (.cons (b := .var i) ⟨x, hx, v₂ rfl x _ hv⟩ j₂) hes Q E ?_
    exact out.lift (x₂) fun q => (v₂ q)
   ·exact out.elim
  ·exact out.elim
 ·exact out.elim
end
end Mine
end

section
set_option Elab.async false
set_option maxRecDepth 100000
namespace Mine
open PySem PyProof.Rows
inductive IOut where
 | ok (ds : List D)
 | exc (C : Addr)
 | stuck
noncomputable def FP : Option T → Bool
 | some (.ow _ _) => false
 | _ => true
noncomputable def Yc (ρ : AEnv) : Bool := ρ.all FP
theorem YV {ρ : AEnv} (h : Yc ρ = true) {i : Nat} {m : Bool} {d : D} (e : ρ[i]? = some (some (.ow m d))) : False := by
 have := List.all_eq_true.mp h _ (List.mem_of_getElem? e)
 cases this
noncomputable def EV : T → Bool
 | .ow _ _ => true
 | .sh (.int _) => true
 | _ => false
theorem JJ.new {cx : Cx} {S : Addr → Prop} {h : Heap} {v : Value} {t : T} (q : JJ cx S h v t) (hn : EV t = true) {b : Addr} (e : v = .ref b) : cx.h₀.get? b = none := by
 cases t with
 | ow m d => obtain ⟨a, e', _, _, n, _⟩ := q; rw [e] at e'; cases e'; exact n
 | sh d =>
  cases d with
  | int i => subst e; cases q
  | _ => cases hn
noncomputable def Z7 : List (Str × (AEnv → Res T)) → AEnv → Option (List D)
 | [], ρ => if Yc ρ then some [] else none
 | (_, f) :: fs, ρ => if Yc ρ then (match f ρ with
  | .ok t ρ₁ => if EV t then (Z7 fs ρ₁).map (t.val :: ·) else none
  | _ => none) else none
theorem OG {ts : List (Str × (AEnv → Res T))} {ρ : AEnv} {ds : List D} (h : Z7 ts ρ = some ds) : Yc ρ = true := by
 cases ts with
 | nil => rw [Z7] at h; split at h; assumption; cases h
 | cons a ts => obtain ⟨n, f⟩ := a; rw [Z7] at h; split at h; assumption; cases h
noncomputable def C2 (i₀ : Nat) (pre : AEnv → Res Fl) (ts : List (Str × (AEnv → Res T))) (x : Addr) (ρ : AEnv) : IOut := match pre ρ with
 | .ok .next ρ₁ => (match ρ₁[i₀]? with
  | some (some (.sh (.glob (.ref y)))) => if y = x then (match Z7 ts ρ₁ with
   | some ds => .ok ds
   | none => .stuck) else .stuck
  | _ => .stuck)
 | .exc C _ => .exc C
 | _ => .stuck
section
variable {G : Gd} {cx : Cx} {sc : Scope} {ρ : AEnv} {S : Addr → Prop} {h h' : Heap} {k : Nat}
abbrev Cx.at (cx : Cx) (g : Heap) : Cx := { cx with h₀ := g }
theorem Rel.rebase {g g' : Heap} {dx : Addr} {o₁ o₂ : Obj} (r : Rel G (cx.at g) sc ρ S h) (hsh : Yc ρ = true) (e₁ : h.get? dx = some o₁) (hi : ¬ Imm o₁) (hcl : ∀ v, o₁.data ≠ .cell v) (hS : ¬ S dx) (hl : dx ≠ cx.env.locals) (hB : G.B.get? dx = none) (hff : ∀ env ∈ cx.fs, env.frame ≠ some dx)
  (k : Heap.SameBut dx h h') (e₂ : h'.get? dx = some o₂) (gk : ∀ b, b ≠ dx → g'.get? b = g.get? b) (gd : g'.get? dx = some o₂) (g0 : ∃ o, g.get? dx = some o) :
  Rel G (cx.at g') sc ρ S h' ∧ Ext S h S h' ∧ QA cx.env h h' := by
 have x' : Ext S h S h' := RV.but e₁ hi hS (fun b o hb eb => (k.2 b hb).trans eb) ⟨_, e₂⟩
 have nsame : ∀ m, h.Ns cx.env.locals m → h'.Ns cx.env.locals m := fun m n => n.sameBut k (Ne.symm hl)
 have cne : ∀ y c, cx.env.cells.lookup y = some c → c ≠ dx := fun y c q => by
  rintro rfl
  obtain ⟨v, o, e'', hd'⟩ := r.cells y _ q
  rw [e₁] at e''; cases e''; exact hcl _ hd'
 have csame : ∀ y c, cx.env.cells.lookup y = some c → ∀ w, h.IsCell c w → h'.IsCell c w := fun y c q w n => n.sameBut k (cne y c q)
 have same : QA cx.env h h' := fun y w q => by
  rcases q with ⟨a, m₁, b, c⟩ | ⟨a, c, b, d⟩
  ·exact .inl ⟨a, m₁, nsame m₁ b, c⟩
  ·exact .inr ⟨a, c, b, csame y c b _ d⟩
 have hf : ∀ y w, Var cx.env h' y w → Var cx.env h y w := fun y w q => by
  rcases q with ⟨a, m₁, b, c⟩ | ⟨a, c, b, d⟩
  ·obtain ⟨m₀, n₀⟩ := r.ns
   exact .inl ⟨a, m₀, n₀, by rw [(nsame m₀ n₀).agree b y]; exact c⟩
  ·obtain ⟨w₀, n₀⟩ := r.cells y c b
   exact .inr ⟨a, c, b, by rw [IsCell.inj d (csame y c b _ n₀)]; exact n₀⟩
 refine ⟨⟨fun b o q => (k.2 b (by rintro rfl; rw [hB] at q; cases q)).trans (r.base b o q), fun b o q => ?_, fun env he => ?_, let ⟨m, n⟩ := r.ns; ⟨m, nsame m n⟩, fun y c q => let ⟨w, n⟩ := r.cells y c q; ⟨w, csame y c q w n⟩, fun b q => let ⟨o, eo⟩ := r.sdom b q; x'.dom b o eo, fun b q => ?_, r.sloc, r.scell, fun y b hdy q => let ⟨o, eo⟩ := r.live y b hdy (hf y _ q); x'.dom b o eo,
  fun i y m d _ hj => (YV hsh hj).elim, fun v q => let ⟨C, e⟩ := r.hok v q; ⟨C, e.ext x'⟩, fun j y u hy hu => ?_, fun j l y z m m' d d' u hy hz hj hl a b => (YV hsh hj).elim, fun i y m ks ds _ hj => (YV hsh hj).elim⟩, x', same⟩
 ·by_cases hb : b = dx
  ·subst hb
   have q : g'.get? b = some o := q
   rw [gd] at q; cases q
   exact ⟨o₂.slots, e₂, fun _ => rfl⟩
  ·have q : g'.get? b = some o := q
   rw [gk b hb] at q
   obtain ⟨sl, q₁, k₁⟩ := r.keep b o q
   exact ⟨sl, (k.2 b hb).trans q₁, k₁⟩
 ·obtain ⟨p, L, o, b, c, d, es, n, q⟩ := r.ff env he
  exact ⟨p, L, o, b, c, (k.2 L (by rintro rfl; exact hff env he b)).trans d, es, n, q⟩
 ·rcases r.sok b q with q' | q'
  ·exact .inl q'
  ·refine .inr ?_
   have q' : g.get? b = none := q'
   show g'.get? b = none
   rw [gk b (by rintro rfl; obtain ⟨o, e⟩ := g0; rw [q'] at e; cases e)]
   exact q'
 ·obtain ⟨w, hw', tw⟩ := r.vars j y u hy hu
  cases u with
  | sh d => exact ⟨w, same y w hw', RV.ext x' tw⟩
  | ow m d => exact (YV hsh hu).elim
inductive STail (G : Gd) (k : Nat) (sc : Scope) (C : Addr) (i₀ : Nat) (sf : Str) : List Stmt → List (Str × (AEnv → Res T)) → Prop
 | nil : STail G k sc C i₀ sf [] []
 | cons {value : Expr} {p ap pos : Pos} {n : Str} {f : AEnv → Res T} {sts : List Stmt} {ts : List (Str × (AEnv → Res T))} : Sim G k sc value f → (∀ env : Env, env.scope = sc → swapsWithSole [.Attribute (.Name sf p) n ap] value pos.line env = pure false) → (∀ env : Env, swappedStores [.Attribute (.Name sf p) n ap] value env = pure none) →
   W.takerIn G.K C n = some none → STail G k sc C i₀ sf sts ts → STail G k sc C i₀ sf (.Assign [.Attribute (.Name sf p) n ap] value pos :: sts) ((n, f) :: ts)
structure TI (G : Gd) (cx : Cx) (sc : Scope) (C x dx : Addr) (sf : Str) (g : Heap) (ρ : AEnv) (S : Addr → Prop) (h : Heap) (ns : List Str) (vs : List Value) (ds : List D) (m : Str → Option Value) : Prop where
 r : Rel G (cx.at g) sc ρ S h
 gk : ∀ b, b ≠ dx → g.get? b = cx.h₀.get? b
 gd : ∃ o, g.get? dx = some o
 xi : cx.h₀.get? x = some (W.instObj C dx)
 xd : x ≠ dx
 pd : ¬ cx.P dx
 bd : G.B.get? dx = none
 ld : dx ≠ cx.env.locals
 fd : ∀ env ∈ cx.fs, env.frame ≠ some dx
 var : Var cx.env h sf (.ref x)
 nsd : h.Ns1 dx m
 hm : ns.map m = vs.map some
 hmn : ∀ y, y ∉ ns → m y = none
 rv : RVs S h vs ds
 new : ∀ b, Value.ref b ∈ vs → cx.h₀.get? b = none
theorem Kp.ns1 {h h' : Heap} (x : Kp h h') {a : Addr} {m : Str → Option Value} (hn : h.Ns1 a m) : h'.Ns1 a m := by
 obtain ⟨o, es, ep, ho, hd, r⟩ := hn
 obtain ⟨sl, e₁, _⟩ := x a o ho
 exact ⟨_, es, ep, e₁, hd, r⟩
set_option tactic.hygienic true in
theorem FU (hG : G.Ok) {C x dx : Addr} {i₀ : Nat} {sf : Str} (hdb : (sf == ("__debug__" : Str)) = false) (hn : (sf == ("__classdict__" : Str)) = false) (hp : W.plainOver G.K C = true) (hh : (W.clsIn G.K C).any (·.hasDict) = true)
  (hs : W.findIn G.K (.ref C) "__setattr__" = some (some (.builtin "object.__setattr__"))) (ok : CxOk G cx sc k) {E : Value → Shared → Prop} {sts : List Stmt} {ts : List (Str × (AEnv → Res T))} (st : STail G k sc C i₀ sf sts ts) :
  ∀ {g : Heap} {ρ : AEnv} {S : Addr → Prop} {s : Shared} {ns : List Str} {vs : List Value} {ds ds' : List D} {m : Str → Option Value} {Q : Flow → Shared → Prop}, TI G cx sc C x dx sf g ρ S s.heap ns vs ds m → (ns ++ ts.map (·.1)).Nodup → (ns ++ ts.map (·.1)).length ≤ 100 → Z7 ts ρ = some ds' →
  (∀ h' tk g' ρ' S' vs' m', TI G cx sc C x dx sf g' ρ' S' h' (ns ++ ts.map (·.1)) vs' (ds ++ ds') m' → (∀ b, S b → S' b) → Q .next { s with heap := h', toks := tk }) → wpAny G.M cx.A (execs sts cx.env) Q E s := by
 induction st with
 | nil =>
  intro g ρ S s ns vs ds ds' m Q ti nd hl ht hQ
  rw [Z7] at ht
  split at ht
  ·cases ht
   rw [execs_nil]
   rw [List.map_nil, List.append_nil, List.append_nil] at hQ
   exact wpAny_pure (hQ s.heap s.toks g ρ S vs m ti fun _ q => q)
  ·cases ht
 | cons hf hsw hw htk _ ih =>
  rename_i value p ap pos n f sts ts _
  intro g ρ S s ns vs ds ds' m Q ti nd hl ht hQ
  have hsh := OG ht
  rw [Z7, if_pos hsh] at ht
  rw [execs_cons]
  refine wpAny_bind ?_
  rw [exec_Assign]
  refine wpAny_bind (wpAny_standAt ?_)
  rw [hsw cx.env ok.hsc]
  refine wpAny_bind (wpAny_pure ?_)
  rw [if_neg (by decide)]
  have ok' : CxOk G (cx.at g) sc k := ⟨ok.hsc, ok.hk, ok.hg, ok.hb, ok.fr, ok.top, ok.hd, ok.room, ok.nodup, fun b o q => (ti.gk b (by rintro rfl; rw [ti.bd] at q; cases q)).trans (ok.bh b o q)⟩
  refine wpAny_bind (hf (cx.at g) ok' ρ S s ti.r _ _ ?_)
  cases hfv : f ρ with
  | stuck => rw [hfv] at ht; cases ht
  | exc C ρ₁ => rw [hfv] at ht; cases ht
  | ok t ρ₁ =>
   rw [hfv] at ht
   obtain ⟨hnw, ht⟩ := ifs ht
   obtain ⟨ds₁, ht₁, rfl⟩ := Option.map_eq_some_iff.mp ht
   intro v h₁ t₁ S₀ r₀ j₀ x₀ v₁
   have fresh : ∀ b, v = .ref b → cx.h₀.get? b = none := fun b e => by
    have q : g.get? b = none := j₀.new hnw e
    rw [← ti.gk b (by rintro rfl; obtain ⟨o, e⟩ := ti.gd; rw [q] at e; cases e)]; exact q
   obtain ⟨S₁, r₁, j₁, x₁'⟩ := r₀.drop j₀
   have x₁ := x₀.trans x₁'
   rw [hw]
   refine wpAny_bind (wpAny_pure ?_)
   show wpAny _ _ (do assignAll v [assign (.Attribute (.Name sf p) n ap) cx.env]; pure Flow.next) _ _ _
   refine wpAny_bind ?_
   show wpAny _ _ (assign (.Attribute (.Name sf p) n ap) cx.env v) _ _ _
   rw [arm_assign_Attribute]
   have hv₁ : Var cx.env h₁ sf (.ref x) := v₁ rfl sf _ ti.var
   refine wpAny_bind (wpAny_holding (wpAny_Name (Zr (cx := cx) (ok.mono (Nat.zero_le _)) hv₁ hn rfl ?_) hdb))
   refine wpAny_bind (wpAny_standAt (wpAny_bind (wpAny_holding ?_)))
   have hx₁ : h₁.get? x = some (W.instObj C dx) := r₁.keep.exact ((ti.gk x ti.xd).trans ti.xi) (fun es m q => by cases q)
   have nd₁ : h₁.Ns1 dx m := by
    obtain ⟨o, es, ep, e, hd, rest⟩ := ti.nsd
    obtain ⟨o₀, e₀⟩ := ti.gd
    obtain ⟨sl, e₁, _⟩ := ti.r.keep dx o₀ e₀
    have e₁ : s.heap.get? dx = some { o₀ with slots := sl } := e₁
    rw [e] at e₁; cases e₁
    obtain ⟨sl', e₂, _⟩ := r₁.keep dx o₀ e₀
    exact ⟨_, es, ep, e₂, hd, rest⟩
   obtain ⟨od, es, ep, ed, hdd, _⟩ := id nd₁
   have I : W.InstAt h₁ x (W.instObj C dx) C (some od) := ⟨hx₁, rfl, rfl, ed⟩
   have X : G.K.In h₁ := hG.K.keeps r₁.base
   refine W.set_plain (s := { s with heap := h₁, toks := t₁ }) X I hs ?_
   refine W.osa_open (s := { s with heap := h₁, toks := t₁ + 1 }) X I hp htk fun b => ?_
   obtain ⟨cd, hc, hd'⟩ := W.any_some hh
   show wpAny _ _ (Builtin.ObjectAttr.storeInOwnDict (.ref x) (.ref C) (.str n t₁) n v b) _ _ _
   unfold Builtin.ObjectAttr.storeInOwnDict
   refine wpAny_bind (wpAny_pure (wpAny_bind (wpAny_bind (wpAny_loadPart hx₁ (wpAny_bind ((W.looks_clsIn X hc).here ?_))))))
   rw [hd']
   refine wpAny_pure (a := some dx) (wpAny_bind (wpAny_pure (wpAny_bind ?_)))
   refine wpAny_nsSet1 (s := { s with heap := h₁, toks := t₁ + 1 }) nd₁ fun h₂ n₂ k₂ => ?_
   have nn : n ∉ ns := fun q => by
    rw [List.map_cons] at nd
    exact (List.nodup_append.mp nd).2.2 n q n (.head _) rfl
   have hmn' : ∀ y, y ∉ ns ++ [n] → (if y = n then some v else m y) = none := fun y hy => by
    rw [List.mem_append, not_or] at hy
    rw [if_neg (by rintro rfl; exact hy.2 (.head _))]
    exact ti.hmn y hy.1
   obtain ⟨oD, esD, epD, hoD, hdD, hcD⟩ := n₂.count (ns := ns ++ [n]) fun y hy => by
    by_cases q : y ∈ ns ++ [n]
    ·exact q
    ·exact absurd (hmn' y q) hy
   refine wpAny_bind (wpAny_lookBehind hoD (by rw [hdD]; exact pastItsLine_dict (Nat.le_trans hcD (by
    rw [sizeLine_eq, List.length_append]
    rw [List.length_append, List.length_map, List.length_cons] at hl
    simp only [List.length_cons, List.length_nil]; lia))) ?_)
   refine wpAny_pure ?_
   show wpAny _ _ (release _ _) _ _ _
   refine wpAny_release ?_
   refine wpAny_pure ?_
   have hSd : ¬ S₁ dx := fun q => by
    rcases r₁.sok dx q with q | q
    ·exact ti.pd q
    ·obtain ⟨o, e⟩ := ti.gd
     have q : g.get? dx = none := q
     rw [q] at e; cases e
   obtain ⟨o₀, e₀⟩ := ti.gd
   have ge : (g.update dx fun _ => oD).get? dx = some oD := Heap.get?_update_self _ e₀ (Obj.isFreed_of_dict hdD)
   obtain ⟨r₂, x₂, v₂⟩ := r₁.rebase (g' := g.update dx fun _ => oD) (OG ht₁) ed (BX hdd) (by rw [hdd]; intro v q; cases q) hSd ti.ld ti.bd ti.fd k₂ hoD (fun b hb => Heap.get?_update_other _ _ (Ne.symm hb)) ge ti.gd
   have rv₂ : RVs S₁ h₂ (vs ++ [v]) (ds ++ [t.val]) := RVs.append (.cons (j₁.ext x₂) .nil) ((ti.rv.ext x₁).ext x₂)
   have := ih (s := { s with heap := h₂, toks := t₁ + 1 + 1 }) (g := g.update dx fun _ => oD) (ns := ns ++ [n]) (vs := vs ++ [v]) (ds := ds ++ [t.val]) (m := fun y => if y = n then some v else m y) (Q := Q)
    ⟨r₂, fun b hb => (Heap.get?_update_other _ _ (Ne.symm hb)).trans (ti.gk b hb), ⟨oD, ge⟩, ti.xi, ti.xd, ti.pd, ti.bd, ti.ld, ti.fd, v₂ sf _ hv₁, n₂, by
     rw [List.map_append, List.map_append, List.map_cons, List.map_nil, if_pos rfl, ← ti.hm]
     congr 1
     exact List.map_congr_left fun y hy => if_neg (by rintro rfl; exact nn hy), hmn', rv₂, fun b hb => (List.mem_append.mp hb).elim (ti.new b) fun hb => fresh b (List.mem_singleton.mp hb).symm⟩ (by rw [List.append_assoc]; exact nd) (by rw [List.append_assoc]; exact hl) ht₁
   refine this fun h' tk g' ρ' S' vs' m' ti' sub => ?_
   rw [List.append_assoc, List.append_assoc] at ti'
   exact hQ h' tk g' ρ' S' vs' m' ti' fun b q => sub b (x₁.sub b q)
end
end Mine
end

section
set_option Elab.async false
set_option maxRecDepth 100000
namespace Mine
open PySem PyProof.Rows
noncomputable def Fu (G : Gd) (cx : Cx) (sc : Scope) (sts : List Stmt) (S : Addr → Prop) (s : Shared) (Q : Flow → Shared → Prop) (E : Value → Shared → Prop) : Res Fl → Prop
 | .ok .next ρ => ∀ h' tk S', Rel G cx sc ρ S' h' → Ext S s.heap S' h' → wpAny G.M cx.A (execs sts cx.env) Q E { s with heap := h', toks := tk }
 | .exc C ρ => ∀ e h' tk S', Rel G cx sc ρ S' h' → Fly s.heap h' e C → Ext S s.heap S' h' → E (.ref e) { s with heap := h', toks := tk }
 | _ => False
noncomputable def Dn (G : Gd) (k : Nat) (sc : Scope) (sts1 : List Stmt) (f : AEnv → Res Fl) : Prop :=
 ∀ cx, CxOk G cx sc k → FnOk G cx → ∀ ρ S s, Rel G cx sc ρ S s.heap → ∀ rest Q E, Fu G cx sc rest S s Q E (f ρ) → wpAny G.M cx.A (execs (sts1 ++ rest) cx.env) Q E s
inductive SPre (G : Gd) (k : Nat) (sc : Scope) (sts : List Stmt) : List Stmt → (AEnv → Res Fl) → Prop
 | nil : SPre G k sc sts sts QF
 | cons {st : Stmt} {rest : List Stmt} {f g : AEnv → Res Fl} : Jd G k sc st f → SPre G k sc sts rest g → SPre G k sc sts (st :: rest) (Qr f g)
 | blk {sts1 rest : List Stmt} {f g : AEnv → Res Fl} : Dn G k sc sts1 f → SPre G k sc sts rest g → SPre G k sc sts (sts1 ++ rest) (Qr f g)
set_option tactic.hygienic true in
theorem SPre.wp {G : Gd} {k : Nat} {sc : Scope} {sts body : List Stmt} {f : AEnv → Res Fl} {cx : Cx} (p : SPre G k sc sts body f) (ok : CxOk G cx sc k) (fn : FnOk G cx) : ∀ {ρ : AEnv} {S : Addr → Prop} {s : Shared} {Q : Flow → Shared → Prop} {E : Value → Shared → Prop}, Rel G cx sc ρ S s.heap → Fu G cx sc sts S s Q E (f ρ) → wpAny G.M cx.A (execs body cx.env) Q E s := by
 induction p with
 | nil => intro ρ S s Q E r out; exact out s.heap s.toks S r (Ext.refl ..)
 | cons h1 _ ih =>
  rename_i st rest f g _
  intro ρ S s Q E r out
  rw [execs_cons]
  refine wpAny_bind (h1 cx ok fn ρ S s r _ _ ?_)
  unfold Qr at out
  cases hf : f ρ with
  | stuck => rw [hf] at out; exact out.elim
  | exc C ρ₁ => rw [hf] at out; exact out
  | ok fl ρ₁ =>
   rw [hf] at out
   simp only [Res.bind] at out
   intro a h₁ t₁ S₁ r₁ j₁ x₁ _
   cases a <;> cases fl <;> first | exact j₁.elim | exact out.elim | skip
   refine ih (s := { s with heap := h₁, toks := t₁ }) r₁ ?_
   have out : Fu G cx sc sts S s Q E (g ρ₁) := out
   cases hg : g ρ₁ with
   | stuck => rw [hg] at out; exact out
   | exc C ρ₂ => rw [hg] at out; intro e h₂ t₂ S₂ r₂ f₂ x₂; exact out e h₂ t₂ S₂ r₂ (f₂.back x₁) (x₁.trans x₂)
   | ok fl ρ₂ =>
    rw [hg] at out
    cases fl <;> first | exact out | skip
    intro h₂ t₂ S₂ r₂ x₂
    exact out h₂ t₂ S₂ r₂ (x₁.trans x₂)
 | blk h1 _ ih =>
  rename_i sts1 rest f g _
  intro ρ S s Q E r out
  refine h1 cx ok fn ρ S s r rest Q E ?_
  unfold Qr at out
  cases hf : f ρ with
  | stuck => rw [hf] at out; exact out.elim
  | exc C ρ₁ => rw [hf] at out; exact out
  | ok fl ρ₁ =>
   rw [hf] at out
   cases fl <;> first | exact out.elim | skip
   intro h₁ t₁ S₁ r₁ x₁
   refine ih (s := { s with heap := h₁, toks := t₁ }) r₁ ?_
   have out : Fu G cx sc sts S s Q E (g ρ₁) := out
   cases hg : g ρ₁ with
   | stuck => rw [hg] at out; exact out
   | exc C ρ₂ => rw [hg] at out; intro e h₂ t₂ S₂ r₂ f₂ x₂; exact out e h₂ t₂ S₂ r₂ (f₂.back x₁) (x₁.trans x₂)
   | ok fl ρ₂ =>
    rw [hg] at out
    cases fl <;> first | exact out | skip
    intro h₂ t₂ S₂ r₂ x₂
    exact out h₂ t₂ S₂ r₂ (x₁.trans x₂)
noncomputable def Hm (G : Gd) (ns : List Str) (dx : Addr) (S : Addr → Prop) (s : Shared) (R : Result → Shared → Prop) : IOut → Prop
 | .ok ds => ∀ h' tk S' m vs, (∀ b o, b ≠ dx → s.heap.get? b = some o → Kept h' b o) → G.B.StaysIn h' → (∀ b, S b → S' b) → (∀ b, S' b → S b ∨ s.heap.get? b = none) → Ve S' h' → h'.Ns dx m → (ns.map m = vs.map some ∧ ∀ y, y ∉ ns → m y = none) → RVs S' h' vs ds → (∀ b, Value.ref b ∈ vs → s.heap.get? b = none) → R (.ok (.ret .none)) { s with heap := h', toks := tk }
 | .exc C => ∀ e h' tk, Kp s.heap h' → G.B.StaysIn h' → FlyT s.heap h' e C → R (.error (.ref e)) { s with heap := h', toks := tk }
 | .stuck => False
noncomputable def UE (G : Gd) (k : Nat) (f : Value) (C : Addr) (ns : List Str) (I : Addr → List D → IOut) : Prop :=
 ∀ (A : Around) (fs : List Env) (S : Addr → Prop) (s : Shared) (vs : List Value) (ds : List D) (x dx : Addr), O7 A k → A.frames = some fs → (G.quiet = true → A.handled = none) → (∀ v, A.handled = some v → ∃ C, RV S s.heap v (.exc C)) → FF G.B s.heap fs → G.B.StaysIn s.heap → Ve S s.heap → RVs S s.heap vs ds →
  s.heap.get? x = some (W.instObj C dx) → s.heap.Ns1 dx (fun _ => none) → x ≠ dx → ¬ S dx → G.B.get? dx = none → (∀ env ∈ fs, env.frame ≠ some dx) → ∀ R, Hm G ns dx S s R (I x ds) → codeAny G.M A (.call f ⟨.ref x :: vs, []⟩) R s
noncomputable def VB (n : Nat) (is : List Nat) (i₀ : Nat) (f : AEnv → Res Fl) (ts : List (Str × (AEnv → Res T))) (x : Addr) (ds : List D) : IOut := if ds.length + 1 = is.length then C2 i₀ f ts x (Wg n is (.glob (.ref x) :: ds)) else .stuck
set_option tactic.hygienic true in
theorem ER {G : Gd} (g : Gr G) {k : Nat} (a : Addr) (n : Nat) (is : List Nat) (i₀ : Nat) (C : Addr) (sf : Str) {f : AEnv → Res Fl} {sts : List Stmt} {ts : List (Str × (AEnv → Res T))} (h : SPre G k (QZ G.K a).scope sts (Z3 (QZ G.K a)) f) (ht : STail G k (QZ G.K a).scope C i₀ sf sts ts)
  (hbind : ∀ vs : List Value, vs.length = (Xe (QZ G.K a)).length → bindArgs (QZ G.K a) ⟨vs, []⟩ = pure ((Xe (QZ G.K a)).zip vs)) (hn : (Qg (QZ G.K a).scope).length = n) (hi : Yv (Qg (QZ G.K a).scope) (Xe (QZ G.K a)) = is) (hsf : (Qg (QZ G.K a).scope)[i₀]? = some sf)
  (hdb : (sf == ("__debug__" : Str)) = false) (hcd : (sf == ("__classdict__" : Str)) = false) (hp : W.plainOver G.K C = true) (hh : (W.clsIn G.K C).any (·.hasDict) = true)
  (hs : W.findIn G.K (.ref C) "__setattr__" = some (some (.builtin "object.__setattr__"))) (hnd : UM (ts.map (·.1)) = true) (hnl : ts.length ≤ 100)
  (hf : JY G.K a = true) (hc : W.codeIn G.K (QZ G.K a).code (QZ G.K a).qualname = true) (hpl : JM (QZ G.K a) = true) :
  UE G (k + 1) (.ref a) C (ts.map (·.1)) (VB n is i₀ f ts) := by
 obtain ⟨fo, h1, h2⟩ := VI g hf
 unfold JM at hpl
 simp only [Bool.and_eq_true, beq_iff_eq, Bool.not_eq_true'] at hpl
 obtain ⟨⟨⟨⟨⟨⟨⟨⟨⟨p1, p2⟩, p3⟩, p4⟩, p5⟩, p6⟩, p7⟩, p8⟩, p9⟩, p10⟩ := hpl
 have p7' : ∀ x ∈ Xe (QZ G.K a), (Qg (QZ G.K a).scope).contains x = true ∧ ((QZ G.K a).scope.names.lookup x = some .local ∨ (QZ G.K a).scope.names.lookup x = some .cell) := fun x hx => by
  have := List.all_eq_true.mp p7 x hx
  simpa using this
 have hb : (QZ G.K a).body = .stmts (Z3 (QZ G.K a)) := by
  unfold Z3
  split at p1
  ·rename_i b e; rw [e]
  ·cases p1
 intro A fs S s vs ds x dx room fr hd hok ff hB sd rv hx hdx hxd hSd hBd hfd R fin
 unfold VB at fin
 split at fin
 rotate_left
 ·exact fin.elim
 rename_i hlen
 have hil : is.length = (Xe (QZ G.K a)).length := by rw [← hi]; unfold Yv; simp
 have rv' : RVs S s.heap (.ref x :: vs) (.glob (.ref x) :: ds) := .cons (.glob _ fun b e => by cases e; exact ⟨_, hx⟩) rv
 refine EX g.ok (body := Z3 (QZ G.K a)) (ps := Xe (QZ G.K a)) h1 h2 (W.codeRec_of g.ok.K hc) hb (by simpa using p2) p3 p4 hbind (fun x hx => (p7' x hx).2) (X3 p6) (X3 p5) p8 p9 p10 room fr hd hok ff hB sd rv' (by rw [List.length_cons, hlen, hil]) fun cx h₁ tk₁ ok fn e₀ eP eF eL r₀ hk₁ => ?_
 rw [OK (X3 p5) (List.all_eq_true.mpr fun x hx => (p7' x hx).1), hn, hi] at r₀
 refine h.wp ok fn (s := { s with heap := h₁, toks := tk₁ }) r₀ ?_
 unfold C2 at fin
 cases hfr : f (Wg n is (.glob (.ref x) :: ds)) with
 | stuck => rw [hfr] at fin; exact fin.elim
 | exc C ρ' =>
  rw [hfr] at fin
  intro e h₂ t₂ S₂ r₂ f₂ x₂
  refine Ow (B := G.B) (h := h₁) (s := { s with heap := h₂, toks := t₂ }) ok.fr r₂.ff ok.top f₂ x₂.dom fun h₃ k₃ f₃ => ?_
  have r₃ := r₀.kpE r₂ k₃ f₂ f₃
  refine fin e h₃ t₂ (e₀ ▸ r₃.keep) r₃.base ?_
  obtain ⟨n, oe, ws, T, oT, ts, a1, a2, a0, a3, a4, a5, a6, a7, a8, a9, a10, a11⟩ := f₃
  have back : ∀ b, h₁.get? b = none → s.heap.get? b = none := fun b q => by
   cases q' : s.heap.get? b with
   | none => rfl
   | some o => rw [hk₁ b o q'] at q; cases q
  exact ⟨back e n, oe, ws, T, oT, ts, a1, a2, a0, a3, a4, a5, a6, back T a7, a8, a9, a10, a11⟩
 | ok fl ρ₁ =>
  rw [hfr] at fin
  cases fl <;> first | exact fin.elim | skip
  simp only at fin
  split at fin
  ·rename_i y hy
   split at fin
   ·rename_i hyx
    subst hyx
    cases htl : Z7 ts ρ₁ with
    | none => rw [htl] at fin; exact fin.elim
    | some ds' =>
     rw [htl] at fin
     intro h₂ t₂ S₂ r₂ x₂
     obtain ⟨v, hv, tv⟩ := r₂.vars i₀ sf _ hsf hy
     cases tv
     have hdx₀ : cx.h₀.Ns1 dx (fun _ => none) := by rw [e₀]; exact hdx
     have hdx₂ : h₂.Ns1 dx (fun _ => none) := r₂.keep.ns1 hdx₀
     have gd : ∃ o, cx.h₀.get? dx = some o := let ⟨o, _, _, e, _⟩ := hdx₀; ⟨o, e⟩
     refine FU g.ok (x := y) (dx := dx) hdb hcd hp hh hs ok ht (g := cx.h₀) (s := { s with heap := h₂, toks := t₂ }) (ns := []) (vs := []) (ds := []) (m := fun _ => none)
      ⟨r₂, fun _ _ => rfl, gd, by rw [e₀]; exact hx, hxd, by rw [eP]; exact hSd, hBd, ?_, ?_, hv, hdx₂, rfl, fun _ _ => rfl, .nil, fun b hb => by cases hb⟩ (X3 hnd) (by rw [List.nil_append, List.length_map]; exact hnl) htl fun h' tk g' ρ' S' vs' m' ti sub => ?_
     ·rintro rfl
      obtain ⟨o, e⟩ := gd
      rw [fn.lnew] at e; cases e
     ·intro env he
      obtain ⟨env₀, outer, e1, e2⟩ := ok.top
      rw [e1] at he eF
      rcases List.mem_cons.mp he with rfl | he
      ·intro q
       rw [← e2, eL] at q; cases q
       obtain ⟨o, e⟩ := gd
       rw [fn.lnew] at e; cases e
      ·exact hfd env (by rw [← eF]; exact he)
     ·refine fin h' tk S' m' vs' (fun b o hb e => ?_) ti.r.base (fun b q => sub b (x₂.sub b q)) (fun b q => ?_) ti.r.sdom ti.nsd.ns ⟨by have := ti.hm; rwa [List.nil_append] at this, by have := ti.hmn; rwa [List.nil_append] at this⟩ (by have := ti.rv; rwa [List.nil_append] at this) (fun b hb => by rw [← e₀]; exact ti.new b hb)
      ·exact ti.r.keep b o ((ti.gk b hb).trans (by rw [e₀]; exact e))
      ·rcases ti.r.sok b q with q' | q'
       ·exact .inl (eP ▸ q')
       ·refine .inr ?_
        have q' : g'.get? b = none := q'
        rw [← e₀, ← ti.gk b (by rintro rfl; obtain ⟨o, e⟩ := ti.gd; rw [q'] at e; cases e)]
        exact q'
   ·exact fin.elim
  ·exact fin.elim
end Mine
end

section
set_option Elab.async false
set_option maxRecDepth 100000
namespace Mine
open PySem PyProof.Rows
noncomputable def JH (I : Addr → List D → IOut) (ds : List D) : IOut := by
 classical exact if h : ∃ o, ∀ x, I x ds = o then Classical.choose h else .stuck
theorem Uc {I : Addr → List D → IOut} {ds : List D} {o : IOut} (h : ∀ x, I x ds = o) : JH I ds = o := by
 unfold JH
 have hh : ∃ o, ∀ x, I x ds = o := ⟨o, h⟩
 rw [dif_pos hh, ← Classical.choose_spec hh 0, h 0]
set_option tactic.hygienic true in
theorem CZ {I : Addr → List D → IOut} {ds : List D} (x : Addr) (h : JH I ds ≠ .stuck) : I x ds = JH I ds := by
 unfold JH at h ⊢
 split at h
 ·rename_i hh; rw [dif_pos hh]; exact Classical.choose_spec hh x
 ·exact absurd rfl h
noncomputable def Wh (C : Addr) (ns : List Str) (I : Addr → List D → IOut) (fa : AEnv → Res (List Bv)) : AEnv → Res T := fun ρ => (fa ρ).bind fun bs ρ₁ => match X0 ρ₁ bs with
 | some ds => if bs.all (ZR ρ₁) then (match JH I ds with
  | .ok es => .ok (.sh (.obj C ns es)) ρ₁
  | .exc C' => .exc C' ρ₁
  | .stuck => .stuck) else .stuck
 | none => .stuck
noncomputable def EO : D → Bool
 | .int _ => true
 | .list ds => XX ds
 | _ => false
theorem RVs.free {S S' : Addr → Prop} {h : Heap} {vs : List Value} : ∀ {ds : List D}, RVs S h vs ds → XX ds = true → RVs S' h vs ds := by
 induction vs with
 | nil => intro ds q _; cases q; exact .nil
 | cons v vs ih =>
  intro ds q e
  cases q with
  | cons q r => rw [XX, Bool.and_eq_true_iff] at e; exact .cons (q.free e.1) (ih r e.2)
theorem RVs.newOnly {S S' : Addr → Prop} {h : Heap} {vs : List Value} : ∀ {ds : List D}, RVs S h vs ds → ds.all EO = true → (∀ b, Value.ref b ∈ vs → S b → S' b) → RVs S' h vs ds := by
 induction vs with
 | nil => intro ds q _ _; cases q; exact .nil
 | cons v vs ih =>
  intro ds q e n
  cases q with
  | cons q r =>
   rw [List.all_cons, Bool.and_eq_true_iff] at e
   refine .cons ?_ (ih r e.2 fun b hb => n b (.tail _ hb))
   cases q with
   | int i t => exact .int i t
   | list hs e1 hc hd rv => exact .list (n _ (.head _) hs) e1 hc hd (rv.free e.1)
   | _ => cases e.1
noncomputable def C5 (h : Heap) (S' : Addr → Prop) (h' : Heap) (v : Value) (t : T) : Prop := ∀ C ns es, t = .sh (.obj C ns es) → es.all EO = true → RV (fun b => S' b ∧ h.get? b = none) h' v (.obj C ns es)
section
variable {G : Gd} {k : Nat} {sc : Scope}
theorem Cl {A : Around} {C : Addr} {vs : List Value} {k' : Nat} (r : O7 A (k' + 1)) : O7 (A.under (.builtin "type.__call__" ⟨.ref C :: vs, []⟩)) k' ∧ (A.under (.builtin "type.__call__" ⟨.ref C :: vs, []⟩)).frames = A.frames ∧ (A.under (.builtin "type.__call__" ⟨.ref C :: vs, []⟩)).handled = A.handled := by
 have w : (Code.builtin "type.__call__" ⟨.ref C :: vs, []⟩).weight = 1 := by
  unfold Code.weight Code.isGuard Code.isCaller Code.isCreation
  rfl
 have u : (Code.builtin "type.__call__" ⟨.ref C :: vs, []⟩).cUnits = 1 := rfl
 refine ⟨⟨?_, ?_⟩, ?_, rfl⟩
 ·show A.depth + (Code.builtin "type.__call__" ⟨.ref C :: vs, []⟩).weight + k' ≤ 900
  rw [w]; have := r.1; exact omS this
 ·show A.units + (Code.builtin "type.__call__" ⟨.ref C :: vs, []⟩).cUnits + 8 * k' ≤ 9000
  rw [u]; have := r.2; lia
 ·unfold Around.under
  cases A.frames <;> rfl
theorem Ds {cx : Cx} {ρ : AEnv} {S : Addr → Prop} {s : Shared} {C f : Addr} {ns : List Str} {I : Addr → List D → IOut} {vs : List Value} {bs : List Bv} {ds : List D} {k' : Nat} (hG : G.Ok) (hI : UE G k' (.ref f) C ns I) (ok : CxOk G cx sc k) (hk : k' + 1 ≤ k) (hm : W.makesIn G.K C = true) (hi : W.findIn G.K (.ref C) "__init__" = some (some (.ref f))) (hf : W.typeIn G.K (.ref f) = some (.type "function"))
  (r : Rel G cx sc ρ S s.heap) (q : BVals cx sc S s.heap vs bs) (hs : bs.all (ZR ρ) = true) (e : X0 ρ bs = some ds) :
  Qx G cx sc true (call (.ref C) vs []) S s (fun S' h' v t => JJ cx S' h' v t ∧ C5 s.heap S' h' v t) (match JH I ds with
   | .ok es => .ok (.sh (.obj C ns es)) ρ
   | .exc C' => .exc C' ρ
   | .stuck => .stuck) := by
 intro Q E out
 refine wpAny_call ?_
 have X : G.K.In s.heap := hG.K.keeps r.base
 obtain ⟨hh, gg, dd, tt, os⟩ := s
 refine W.make_core (W.makes_of X hm) (W.looks_findIn X hi) (fun sf => W.bind_fn X sf hf) (.inl rfl) ?_
 have kp : ∀ b o, hh.get? b = some o → ((hh.push W.emptyDict).push (W.instObj C hh.objs.size)).get? b = some o := fun b o e => Heap.get?_push_of_some _ (Heap.get?_push_of_some _ e)
 have hdx : ((hh.push W.emptyDict).push (W.instObj C hh.objs.size)).get? hh.objs.size = some W.emptyDict := Heap.get?_push_of_some _ (Heap.get?_push_size _ rfl)
 have hx : ((hh.push W.emptyDict).push (W.instObj C hh.objs.size)).get? (hh.objs.size + 1) = some (W.instObj C hh.objs.size) := by
  have := Heap.get?_push_size (hh.push W.emptyDict) (o := W.instObj C hh.objs.size) rfl
  rwa [Heap.size_push] at this
 have hn0 : hh.get? hh.objs.size = none := Heap.get?_none_of_le (Nat.le_refl _)
 have hn1 : hh.get? (hh.objs.size + 1) = none := Heap.get?_none_of_le (Nat.le_succ _)
 have r₁ : Rel G cx sc ρ S ((hh.push W.emptyDict).push (W.instObj C hh.objs.size)) := r.keeps kp
 have rv : RVs S ((hh.push W.emptyDict).push (W.instObj C hh.objs.size)) vs ds := (q.rvs r hs e).ext (Ext.of_keeps kp)
 obtain ⟨u1, u2, u3⟩ := Cl (C := C) (vs := vs) (k' := k') (ok.room.mono hk)
 refine hI _ cx.fs S ⟨(hh.push W.emptyDict).push (W.instObj C hh.objs.size), gg, dd, tt, os⟩ vs ds (hh.objs.size + 1) hh.objs.size u1 (u2.trans ok.fr) (fun z => u3.trans (ok.hd z)) (fun v z => r₁.hok v (u3 ▸ z)) r₁.ff r₁.base r₁.sdom rv hx ?_ (Nat.succ_ne_self _) ?_ ?_ ?_ _ ?_
 ·exact Heap.Ns1.of_empty ⟨_, _, _, hdx, rfl, fun e he => absurd he (by simp), fun _ => rfl⟩
 ·intro z; obtain ⟨o, e⟩ := r.sdom _ z; rw [hn0] at e; cases e
 ·cases z : G.B.get? hh.objs.size with
  | none => rfl
  | some o => have := r.base _ o z; rw [hn0] at this; cases this
 ·intro env he z
  obtain ⟨_, L, o, b, _, d, _⟩ := r.ff env he
  rw [z] at b; cases b
  rw [hn0] at d; cases d
 ·cases ha : JH I ds with
  | stuck => rw [ha] at out; exact out.elim
  | exc C' =>
   rw [ha] at out
   rw [CZ (I := I) (ds := ds) (hh.objs.size + 1) (by rw [ha]; intro z; cases z), ha]
   intro e h' tk k1 hb fl
   refine out e h' tk S (r₁.kp k1 hb) ?_ ((Ext.of_keeps kp).trans (Ext.of_kp k1))
   exact fl.fly.back (Ext.of_keeps (S := S) kp)
  | ok es =>
   rw [ha] at out
   rw [CZ (I := I) (ds := ds) (hh.objs.size + 1) (by rw [ha]; intro z; cases z), ha]
   intro h' tk S' m vs' keep hb sub new sd nsd hmm rvs nw
   refine ⟨rfl, ?_⟩
   have kp' : Kp hh h' := fun b o e => keep b o (by rintro rfl; rw [hn0] at e; cases e) (kp b o e)
   have hx' : h'.get? (hh.objs.size + 1) = some (W.instObj C hh.objs.size) := by
    obtain ⟨sl, e₁, hs⟩ := keep _ _ (Nat.succ_ne_self _) hx
    rw [hs fun es m z => by cases z] at e₁; exact e₁
   have hdx' : ∃ o, h'.get? hh.objs.size = some o := let ⟨o, _, _, e, _⟩ := nsd; ⟨o, e⟩
   obtain ⟨r', x'⟩ := r.kpS (S' := fun b => S' b ∨ b = hh.objs.size ∨ b = hh.objs.size + 1) kp' hb (fun b z => .inl (sub b z)) (fun b z => by
    rcases z with z | rfl | rfl
    ·rcases new b z with z | z
     ·exact .inl z
     ·refine .inr ?_
      cases z' : hh.get? b with
      | none => rfl
      | some o => have := kp b o z'; rw [z] at this; cases this
    ·exact .inr hn0
    ·exact .inr hn1) (fun b z => by
    rcases z with z | rfl | rfl
    ·exact sd b z
    ·exact hdx'
    ·exact ⟨_, hx'⟩)
   refine out (.ref (hh.objs.size + 1)) h' tk _ r' ⟨.obj (.inr (.inr rfl)) (.inr (.inl rfl)) hx' nsd hmm (rvs.ext (Ext.grow fun _ z => .inl z)), fun C' ns' es' et hf => ?_⟩ x' fun _ => r.same kp'
   cases et
   refine .obj ⟨.inr (.inr rfl), hn1⟩ ⟨.inr (.inl rfl), hn0⟩ hx' nsd hmm (rvs.newOnly hf fun b hb z => ⟨.inl z, ?_⟩)
   cases z' : hh.get? b with
   | none => rfl
   | some o => have q : ((hh.push W.emptyDict).push (W.instObj C hh.objs.size)).get? b = none := nw b hb; rw [kp b o z'] at q; cases q
noncomputable def DO (G : Gd) (k : Nat) (sc : Scope) (e : Expr) (f : AEnv → Res T) : Prop :=
 ∀ cx, CxOk G cx sc k → ∀ ρ S s, Rel G cx sc ρ S s.heap → Qx G cx sc true (eval e cx.env) S s (fun S' h' v t => JJ cx S' h' v t ∧ C5 s.heap S' h' v t) (f ρ)
theorem DO.sim {e : Expr} {f : AEnv → Res T} (h : DO G k sc e f) : Sim G k sc e f := fun cx ok ρ S s r Q E out => h cx ok ρ S s r Q E (by
 cases hf : f ρ with
 | stuck => rw [hf] at out; exact out
 | exc C ρ₁ => rw [hf] at out; exact out
 | ok t ρ₁ => rw [hf] at out; intro v h' tk S' r' j x vs; exact out v h' tk S' r' j.1 x vs)
set_option tactic.hygienic true in
theorem Vt (hG : G.Ok) {g : Str} {p pos : Pos} {C f : Addr} {ns : List Str} {I : Addr → List D → IOut} {args : List Expr} {fa : AEnv → Res (List Bv)} {k' : Nat} (hn : Sim G k sc (.Name g p) (Qb (.glob (.ref C)))) (hI : UE G k' (.ref f) C ns I) (hk : k' + 1 ≤ k) (ha : YS G k sc args fa) (hu : args.all QO = true)
  (hpl : ∀ env, ((backTo pos (starEach args env)).any (·.1) || ([] : List (Option Str × Sem Value)).any (·.1.isNone)) = false) (hkp : W.keepIn G.K (.ref C) = true) (hm : W.makesIn G.K C = true) (hi : W.findIn G.K (.ref C) "__init__" = some (some (.ref f))) (hf : W.typeIn G.K (.ref f) = some (.type "function")) :
  DO G k sc (.Call (.Name g p) args [] pos) (Wh C ns I fa) := by
 intro cx ok ρ S s r Q E out
 show wpAny G.M cx.A (do callWith pos (← eval (.Name g p) cx.env) [] (backTo pos (starEach args cx.env)) []) Q E s
 refine wpAny_bind (hn cx ok ρ S s r _ _ ?_)
 intro v h₁ t₁ S₁ r₁ j₁ x₁ v₁
 have hv : v = .ref C := by cases j₁; rfl
 subst hv
 refine W.callWith_of (P := G.K.In) (hpl cx.env) (W.keeps_K hkp) (Zy hu ?_)
 refine ha pos cx ok ρ S₁ { s with heap := h₁, toks := t₁ } r₁ _ _ ?_
 refine out.step (x₁) fun bs ρ' out vs h₂ t₂ S₂ r₂ j₂ x₂ v₂ => ?_
 refine ⟨hG.K.keeps r₂.base, ?_⟩
 split at out
 ·rename_i ds hds
  split at out
  ·rename_i hs
   refine Ds (s := { s with heap := h₂, toks := t₂ }) hG hI ok hk hm hi hf r₂ j₂ hs hds Q E ?_
   cases hc : JH I ds with
   | stuck => rw [hc] at out; exact out
   | exc C' => rw [hc] at out; intro e h₃ t₃ S₃ r₃ f₃ x₃; exact out e h₃ t₃ S₃ r₃ (f₃.back (x₁.trans x₂)) ((x₁.trans x₂).trans x₃)
   | ok es => rw [hc] at out; intro w h₃ t₃ S₃ r₃ j₃ x₃ v₃; exact out w h₃ t₃ S₃ r₃ ⟨j₃.1, fun C' ns' es' et hf => (j₃.2 C' ns' es' et hf).ext (Ext.grow fun b z => ⟨z.1, (x₁.trans x₂).none z.2⟩)⟩ ((x₁.trans x₂).trans x₃) fun q => ((v₁ q).trans (v₂ q)).trans (v₃ q)
  ·exact out.elim
 ·exact out.elim
theorem E7 (hG : G.Ok) {g : Str} {p pos : Pos} {C f : Addr} {ns : List Str} {I : Addr → List D → IOut} {args : List Expr} {fa : AEnv → Res (List Bv)} {k' : Nat} (hn : Sim G k sc (.Name g p) (Qb (.glob (.ref C)))) (hI : UE G k' (.ref f) C ns I) (hk : k' + 1 ≤ k) (ha : YS G k sc args fa) (hu : args.all QO = true)
  (hpl : ∀ env, ((backTo pos (starEach args env)).any (·.1) || ([] : List (Option Str × Sem Value)).any (·.1.isNone)) = false) (hkp : W.keepIn G.K (.ref C) = true) (hm : W.makesIn G.K C = true) (hi : W.findIn G.K (.ref C) "__init__" = some (some (.ref f))) (hf : W.typeIn G.K (.ref f) = some (.type "function")) :
  Sim G k sc (.Call (.Name g p) args [] pos) (Wh C ns I fa) := (Vt hG hn hI hk ha hu hpl hkp hm hi hf).sim
end
end Mine
end

section
set_option Elab.async false
set_option maxRecDepth 100000
namespace Mine
open PySem PyProof.Rows
section
variable {prog : Program} {w : World} {A : Around} {E : Value → Shared → Prop} {s : Shared}
end
section
variable {G : Gd} {A : Around} {tg : Expr}
end
end Mine
end

section
set_option Elab.async false
set_option maxRecDepth 100000
namespace Mine
open PySem PyProof.Rows
section
variable {G : Gd} {k : Nat} {sc : Scope} {x : Str} {p : Pos} {args : List Expr} {pos : Pos}
theorem atr (g : Gr G) (C : Addr) {n : Str} (i : Nat) (hx : (Qg sc)[i]? = some x := by kernel_rfl) (hd : (x == ("__debug__" : Str)) = false := by kernel_rfl) (hn : (x == ("__classdict__" : Str)) = false := by kernel_rfl)
  (hga : W.findIn G.K (.ref C) "__getattribute__" = some (some (.builtin "object.__getattribute__")) := by kernel_rfl) (hc : (W.clsIn G.K C).any (·.hasDict) = true := by kernel_rfl) (hf : W.findIn G.K (.ref C) n = some none := by kernel_rfl) : Sim G k sc (.Attribute (.Name x p) n pos) (Jq C n i) := E9 g.ok hx hd hn hga hc hf
theorem mtd (g : Gr G) (C f : Addr) (i : Nat) {n : Str} {apos : Pos} {k' : Nat} {F : List D → FOut} {fa : AEnv → Res (List Bv)} (hF : Yd G k' (.ref f) F) (ha : YS G k sc args fa) (hk : k' ≤ k := by decide) (hfn : JY G.K f = true := by kernel_rfl) (hu : args.all QO = true := by kernel_rfl)
  (hx : (Qg sc)[i]? = some x := by kernel_rfl) (hd : (x == ("__debug__" : Str)) = false := by kernel_rfl) (hn : (x == ("__classdict__" : Str)) = false := by kernel_rfl)
  (hfew : ∀ env, ((backTo pos (starEach args env)).all (fun x => !x.1) && (backToKw pos (keywordEach [] env)).all (fun x => x.1.isSome) && decide (args.length + ([] : List Keyword).length + (if ([] : List Keyword).isEmpty then 0 else 1) < 30)) = true := by intro _; rfl) (hline : (apos.endLine == pos.line) = true := by rfl)
  (hga : W.findIn G.K (.ref C) "__getattribute__" = some (some (.builtin "object.__getattribute__")) := by kernel_rfl) (hgt : W.findIn G.K (.ref C) "__getattr__" = some none := by kernel_rfl) (hf : W.findIn G.K (.ref C) n = some (some (.ref f)) := by kernel_rfl) (hty : W.typeIn G.K (.ref f) = some (.type "function") := by kernel_rfl) :
  Sim G k sc (.Call (.Attribute (.Name x p) n apos) args [] pos) (JK C n i F fa) := by
 obtain ⟨fo, h1, h2⟩ := VI g hfn
 exact FD g.ok hF hk h1 h2 ha hu hx hd hn hfew hline hga hgt hf hty
theorem mak (g : Gr G) (C f : Addr) {ns : List Str} {k' : Nat} {I : Addr → List D → IOut} {fa : AEnv → Res (List Bv)} (hI : UE G k' (.ref f) C ns I) (ha : YS G k sc args fa) (hk : k' + 1 ≤ k := by decide) (hu : args.all QO = true := by kernel_rfl)
  (e : W.nsIn G.K mainGlobals x = some (some (.ref C)) := by kernel_rfl) (ho : (G.K.lookup C).isSome = true := by kernel_rfl) (hx : sc.names.lookup x = some .globalImplicit := by kernel_rfl) (hd : (x == ("__debug__" : Str)) = false := by kernel_rfl)
  (hpl : ∀ env, ((backTo pos (starEach args env)).any (·.1) || ([] : List (Option Str × Sem Value)).any (·.1.isNone)) = false := by intro _; rfl) (hkp : W.keepIn G.K (.ref C) = true := by kernel_rfl) (hm : W.makesIn G.K C = true := by kernel_rfl) (hi : W.findIn G.K (.ref C) "__init__" = some (some (.ref f)) := by kernel_rfl) (hf : W.typeIn G.K (.ref f) = some (.type "function") := by kernel_rfl) :
  Sim G k sc (.Call (.Name x p) args [] pos) (Wh C ns I fa) := E7 g.ok (gF g C e ho hx hd) hI hk ha hu hpl hkp hm hi hf
theorem tC {C : Addr} {i₀ : Nat} {sf n : Str} {ap : Pos} {value : Expr} {f : AEnv → Res T} {sts : List Stmt} {ts : List (Str × (AEnv → Res T))} (h : Sim G k sc value f) (hr : STail G k sc C i₀ sf sts ts) (hsw : ∀ env : Env, swapsWithSole [.Attribute (.Name sf p) n ap] value pos.line env = pure false := by intro _; rfl) (hw : ∀ env : Env, swappedStores [.Attribute (.Name sf p) n ap] value env = pure none := by intro _; rfl) (ht : W.takerIn G.K C n = some none := by kernel_rfl) :
  STail G k sc C i₀ sf (.Assign [.Attribute (.Name sf p) n ap] value pos :: sts) ((n, f) :: ts) := .cons h (fun env _ => hsw env) hw ht hr
theorem Hb (g : Gr G) (a : Addr) (n : Nat) (is : List Nat) (i₀ : Nat) (C : Addr) (sf : Str) {f : AEnv → Res Fl} {sts : List Stmt} {ts : List (Str × (AEnv → Res T))} (h : SPre G k (QZ G.K a).scope sts (Z3 (QZ G.K a)) f) (ht : STail G k (QZ G.K a).scope C i₀ sf sts ts)
  (hbind : ∀ vs : List Value, vs.length = (Xe (QZ G.K a)).length → bindArgs (QZ G.K a) ⟨vs, []⟩ = pure ((Xe (QZ G.K a)).zip vs)) (hn : (Qg (QZ G.K a).scope).length = n := by kernel_rfl) (hi : Yv (Qg (QZ G.K a).scope) (Xe (QZ G.K a)) = is := by kernel_rfl) (hsf : (Qg (QZ G.K a).scope)[i₀]? = some sf := by kernel_rfl)
  (hdb : (sf == ("__debug__" : Str)) = false := by kernel_rfl) (hcd : (sf == ("__classdict__" : Str)) = false := by kernel_rfl) (hp : W.plainOver G.K C = true := by kernel_rfl) (hh : (W.clsIn G.K C).any (·.hasDict) = true := by kernel_rfl)
  (hs : W.findIn G.K (.ref C) "__setattr__" = some (some (.builtin "object.__setattr__")) := by kernel_rfl) (hnd : UM (ts.map (·.1)) = true := by kernel_rfl) (hnl : Nat.ble ts.length 100 = true := by kernel_rfl)
  (hf : JY G.K a = true := by kernel_rfl) (hc : W.codeIn G.K (QZ G.K a).code (QZ G.K a).qualname = true := by kernel_rfl) (hpl : JM (QZ G.K a) = true := by kernel_rfl) :
  UE G (k + 1) (.ref a) C (ts.map (·.1)) (VB n is i₀ f ts) := ER g a n is i₀ C sf h ht hbind hn hi hsf hdb hcd hp hh hs hnd (Nat.le_of_ble_eq_true hnl) hf hc hpl
end
end Mine
end

section
set_option Elab.async false
set_option maxRecDepth 100000
namespace Mine
open PySem PyProof.Rows
noncomputable def Wd (is : List Nat) (f : AEnv → Res T) : AEnv → Res Fl := fun ρ => (f ρ).bind fun t ρ₁ => match t with
 | .sh d => match Y6 is d ρ₁ with
  | some ρ₂ => .ok .next ρ₂
  | none => .stuck
 | .ow _ _ => .stuck
section
variable {G : Gd} {k : Nat} {sc : Scope}
theorem D3 {es : List Expr} {xs : List Str} {is : List Nat} {n : Nat} {tp pos : Pos} {value : Expr} {f : AEnv → Res T} (hn : Names sc es xs is) (h : Sim G k sc value f) (hxs : ∀ x ∈ xs, sc.names.lookup x = some .local ∨ sc.names.lookup x = some .cell)
  (hs : ∀ env, swapsWithSole [.Tuple es n tp] value pos.line env = pure false) (hw : ∀ env, swappedStores [.Tuple es n tp] value env = pure none) : Jd G k sc (.Assign [.Tuple es n tp] value pos) (Wd is f) := by
 intro cx ok fn ρ S s r Q E out
 refine Assign_Tuple ?_ (hs _) (hw _)
 refine (h cx ok ρ S s r).loose (same := false) _ _ ?_
 unfold Wd at out
 cases hf : f ρ with
 | stuck => rw [hf] at out; exact out
 | exc C ρ' => rw [hf] at out; exact out
 | ok t ρ' =>
  rw [hf] at out
  simp only [Res.bind] at out
  cases t with
  | ow m d => exact out.elim
  | sh d =>
   simp only at out
   cases hb : Y6 is d ρ' with
   | none => rw [hb] at out; exact out.elim
   | some ρ'' =>
    rw [hb] at out
    intro v h₁ t₁ S₁ r₁ j₁ x₁ _
    have hn' : ∀ x ∈ xs, U7 cx sc x := fun x hx => (hxs x hx).imp id fun q => ⟨q, fn.has x (by unfold Env.kindOf; rw [ok.hsc]; exact q)⟩
    refine O1 hn cx k ok fn.toFnCx hn' ρ' S₁ { s with heap := h₁, toks := t₁ } v d ρ'' r₁ j₁ hb _ _ ?_
    intro _ h₂ t₂ S₂ r₂ _ x₂ _
    exact out .next h₂ t₂ S₂ r₂ trivial (x₁.trans x₂) fun z => by cases z
theorem nmN : Names sc [] [] [] := .nil
theorem nmC {x : Str} {p : Pos} {es : List Expr} {xs : List Str} {is : List Nat} (i : Nat) (h : Names sc es xs is) (hx : (Qg sc)[i]? = some x := by kernel_rfl) : Names sc (.Name x p :: es) (x :: xs) (i :: is) := .cons hx h
theorem GM {es : List Expr} {xs : List Str} {is : List Nat} {n : Nat} {tp pos : Pos} {value : Expr} {f : AEnv → Res T} (hn : Names sc es xs is) (h : Sim G k sc value f) (hxs : (xs.all fun x => sc.names.lookup x == some .local || sc.names.lookup x == some .cell) = true := by kernel_rfl)
  (hs : ∀ env, swapsWithSole [.Tuple es n tp] value pos.line env = pure false := by intro _; rfl) (hw : ∀ env, swappedStores [.Tuple es n tp] value env = pure none := by intro _; rfl) : Jd G k sc (.Assign [.Tuple es n tp] value pos) (Wd is f) :=
 D3 hn h (fun x hx => by simpa using List.all_eq_true.mp hxs x hx) hs hw
end
theorem Da {is : List Nat} {f : AEnv → Res T} {ρ ρ₁ ρ₂ : AEnv} {d : D} (h1 : f ρ = .ok (.sh d) ρ₁) (h2 : Y6 is d ρ₁ = some ρ₂) : Wd is f ρ = .ok .next ρ₂ := by
 unfold Wd; rw [h1]; simp only [Res.bind, h2]
end Mine
end

section
set_option Elab.async false
set_option maxRecDepth 100000
namespace Mine
open PySem PyProof.Rows
section
variable {G : Gd} {k : Nat} {sc : Scope}
end
end Mine
end

section
set_option Elab.async false
set_option maxRecDepth 100000
namespace Mine
open PySem PyProof.Rows
end Mine
end

section
set_option Elab.async false
set_option maxRecDepth 100000
namespace Mine
open PySem PyProof.Rows
theorem KH {ρ : AEnv} (h : Yc ρ = true) (i : Nat) (d : D) : Yc (ρ.set i (some (.sh d))) = true := by
 refine List.all_eq_true.mpr fun t ht => ?_
 rcases List.mem_or_eq_of_mem_set ht with q | rfl
 ·exact List.all_eq_true.mp h t q
 ·rfl
noncomputable def VW (cx : Cx) (sc : Scope) (ρ : AEnv) (h : Heap) (S : Addr → Prop) (hb : Heap) : Prop := ∀ (i : Nat) (x : Str) (d : D), (Qg sc)[i]? = some x → ρ[i]? = some (some (.sh d)) → ∃ v, Var cx.env h x v ∧ RV S hb v d
section
variable {G : Gd} {cx : Cx} {sc : Scope} {ρ ρ' : AEnv} {S C : Addr → Prop} {h h' hb : Heap}
theorem Rel.held (r : Rel G cx sc ρ S h) : VW cx sc ρ h S h := fun i x _ hx hi => r.vars i x _ hx hi
theorem VW.ext (q : VW cx sc ρ h S hb) (x : Ext S hb S h') : VW cx sc ρ h S h' := fun i y d hy hi => let ⟨v, hv, rv⟩ := q i y d hy hi; ⟨v, hv, rv.ext x⟩
theorem VW.same (q : VW cx sc ρ h S hb) (k : QA cx.env h h') : VW cx sc ρ h' S hb := fun i y d hy hi => let ⟨v, hv, rv⟩ := q i y d hy hi; ⟨v, k _ _ hv, rv⟩
theorem Rel.remake (r : Rel G cx sc ρ S h) (hC : ∀ b, C b → S b) (ha : Yc ρ' = true) (hv : VW cx sc ρ' h C h) : Rel G cx sc ρ' C h where
 base := r.base
 keep := r.keep
 ff := r.ff
 ns := r.ns
 cells := r.cells
 sdom := fun b q => r.sdom b (hC b q)
 sok := fun b q => r.sok b (hC b q)
 sloc := fun q => r.sloc (hC _ q)
 scell := fun x c e q => r.scell x c e (hC _ q)
 live := r.live
 clean := fun _ _ _ _ _ hi => (YV ha hi).elim
 hok := fun v q => let ⟨E, e⟩ := r.hok v q; ⟨E, e.free rfl⟩
 vars := fun i x t hx ht => by
  cases t with
  | sh d => exact hv i x d hx ht
  | ow m d => exact (YV ha ht).elim
 inj := fun _ _ _ _ _ _ _ _ _ _ _ hi _ _ _ => (YV ha hi).elim
 dok := fun _ _ _ _ _ _ hi => (YV ha hi).elim
theorem Rel.nil (r : Rel G cx sc ρ S h) (hC : ∀ b, C b → S b) : Rel G cx sc [] C h := r.remake hC rfl fun _ _ _ _ q => by cases q
theorem Ext.shrink {S' : Addr → Prop} (x : Ext S h S' h') (hC : ∀ b, C b → S b) : Ext C h C h' := ⟨fun _ q => q, fun b o e q => x.keep b o e (q.imp (hC b) id), x.dom⟩
theorem Rel.turnNil {wr : List Addr} (r : Rel G cx sc [] S h) (hh : cx.A.handled = none) (new : ∀ b ∈ wr, cx.h₀.get? b = none ∧ G.B.get? b = none) (sh : ∀ b ∈ wr, ∃ o, h.get? b = some o ∧ Ym o ∧ ∀ v, o.data ≠ .cell v) (k : KB wr h h') : Rel G cx sc [] S h' ∧ QA cx.env h h' := by
 have nsame : ∀ m, h.Ns cx.env.locals m → h'.Ns cx.env.locals m := fun m n => by
  obtain ⟨o, es, ep, ho, hd, q⟩ := n
  refine ⟨o, es, ep, k.1 _ _ (fun hm => ?_) ho, hd, q⟩
  obtain ⟨o', e', nd, _⟩ := sh _ hm
  rw [ho] at e'; cases e'; exact nd _ _ hd
 have csame : ∀ c w, h.IsCell c w → h'.IsCell c w := fun c w n => by
  obtain ⟨o, ho, hd⟩ := n
  refine ⟨o, k.1 _ _ (fun hm => ?_) ho, hd⟩
  obtain ⟨o', e', _, nc⟩ := sh _ hm
  rw [ho] at e'; cases e'; exact nc _ hd
 have hb : QA cx.env h h' := fun y w q => by
  rcases q with ⟨a, m₁, b, c⟩ | ⟨a, c, b, d⟩
  ·exact .inl ⟨a, m₁, nsame m₁ b, c⟩
  ·exact .inr ⟨a, c, b, csame c _ d⟩
 have hf : ∀ y w, Var cx.env h' y w → Var cx.env h y w := fun y w q => by
  rcases q with ⟨a, m₁, b, c⟩ | ⟨a, c, b, d⟩
  ·obtain ⟨m₀, n₀⟩ := r.ns
   exact .inl ⟨a, m₀, n₀, by rw [(nsame m₀ n₀).agree b y]; exact c⟩
  ·obtain ⟨w₀, n₀⟩ := r.cells y c b
   exact .inr ⟨a, c, b, by rw [IsCell.inj d (csame c _ n₀)]; exact n₀⟩
 refine ⟨⟨fun b o q => k.1 b o (fun m => by rw [(new b m).2] at q; cases q) (r.base b o q), fun b o q => ?_, fun env he => ?_, let ⟨m, n⟩ := r.ns; ⟨m, nsame m n⟩, fun y c q => let ⟨w, n⟩ := r.cells y c q; ⟨w, csame c w n⟩, fun b q => let ⟨o, eo⟩ := r.sdom b q; k.dom eo, r.sok, r.sloc, r.scell, fun y b hdy q => let ⟨o, eo⟩ := r.live y b hdy (hf y _ q); k.dom eo, r.clean, fun v q => (by rw [hh] at q; cases q), fun _ _ _ _ q => (by cases q), fun _ _ _ _ _ _ _ _ _ _ _ q => (by cases q), r.dok.back hf⟩, hb⟩
 ·obtain ⟨sl, q₁, k₁⟩ := r.keep b o q
  exact ⟨sl, k.1 b _ (fun m => by rw [(new b m).1] at q; cases q) q₁, k₁⟩
 ·obtain ⟨p, L, o, b, c, d, es, n, q⟩ := r.ff env he
  refine ⟨p, L, o, b, c, k.1 L o (fun hm => ?_) d, es, n, q⟩
  obtain ⟨o', e', nd, _⟩ := sh _ hm
  rw [d] at e'; cases e'; exact nd _ _ q
open Classical in
noncomputable def Bo (cx : Cx) (sc : Scope) (h : Heap) : AEnv := (Qg sc).map fun x => if q : Xn x = false ∧ ∃ v, Var cx.env h x v then some (.sh (.glob (Classical.choose q.2))) else none
theorem V7 {i : Nat} {x : Str} {v : Value} (hx : (Qg sc)[i]? = some x) (hd : Xn x = false) (hv : Var cx.env h x v) : (Bo cx sc h)[i]? = some (some (.sh (.glob v))) := by
 unfold Bo
 rw [List.getElem?_map, hx]
 have q : Xn x = false ∧ ∃ v, Var cx.env h x v := ⟨hd, v, hv⟩
 refine congrArg some ((dif_pos q).trans ?_)
 rw [Var.inj (Classical.choose_spec q.2) hv]
theorem RV.glob_inv {v w : Value} (q : RV S h v (.glob w)) : v = w := by cases q; rfl
theorem Rel.pin (r : Rel G cx sc ρ S h) : Rel G cx sc (Bo cx sc h) S h := by
 refine r.remake (fun _ q => q) ?_ fun i x d hx hi => ?_
 ·refine List.all_eq_true.mpr fun t ht => ?_
  obtain ⟨x, _, rfl⟩ := List.mem_map.mp ht
  by_cases q : Xn x = false ∧ ∃ v, Var cx.env h x v
  ·rw [dif_pos q]; rfl
  ·rw [dif_neg q]; rfl
 ·unfold Bo at hi
  rw [List.getElem?_map, hx] at hi
  by_cases q : Xn x = false ∧ ∃ v, Var cx.env h x v
  ·have hi := (dif_pos q).symm.trans (Option.some.inj hi)
   obtain rfl : D.glob (Classical.choose q.2) = d := T.sh.inj (Option.some.inj hi)
   exact ⟨_, Classical.choose_spec q.2, .glob _ fun a e => r.live x a q.1 (by rw [← e]; exact Classical.choose_spec q.2)⟩
  ·have hi := (dif_neg q).symm.trans (Option.some.inj hi)
   cases hi
theorem Rel.unpin {i : Nat} {x : Str} {v : Value} (r : Rel G cx sc ρ S h) (hx : (Qg sc)[i]? = some x) (hi : ρ[i]? = some (some (.sh (.glob v)))) : Var cx.env h x v := by
 obtain ⟨w, hw, tv⟩ := r.vars i x _ hx hi
 rw [← RV.glob_inv tv]; exact hw
end
noncomputable def V2 (f : AEnv → Res T) : AEnv → Res T := fun ρ => (f ρ).bind fun t ρ₁ => .ok (.sh t.val) ρ₁
theorem Dy {G : Gd} {k : Nat} {sc : Scope} {e : Expr} {f : AEnv → Res T} (h : Sim G k sc e f) : Sim G k sc e (V2 f) := by
 intro cx ok ρ S s r Q E out
 refine (h cx ok ρ S s r).shared Q E ?_
 unfold V2 at out
 cases hf : f ρ with
 | stuck => rw [hf] at out; exact out
 | exc C ρ₁ => rw [hf] at out; exact out
 | ok t ρ₁ => rw [hf] at out; exact out
section
variable {prog : Program} {w : World} {A : Around} {E : Value → Shared → Prop} {s : Shared}
abbrev zipL1 (h : Heap) (l1 : Addr) : Heap := h.push { cls := .type "list_iterator", data := .fields #[.ref l1, .int 0 0] }
abbrev zipL2 (h : Heap) (l1 l2 : Addr) : Heap := (zipL1 h l1).push { cls := .type "tuple_iterator", data := .fields #[.ref l2, .int 0 0] }
abbrev zipL3 (h : Heap) (l1 l2 : Addr) : Heap := (zipL2 h l1 l2).push { cls := .type "tuple", data := .seq #[.ref h.objs.size, .ref (zipL1 h l1).objs.size] }
abbrev zipL4 (h : Heap) (l1 l2 : Addr) : Heap := (zipL3 h l1 l2).push { cls := .type "tuple", data := .seq #[.none, .none] }
abbrev zipL5 (h : Heap) (l1 l2 : Addr) : Heap := (zipL4 h l1 l2).push { cls := .type "zip", data := .fields #[.none, .bool false, .bool false, .ref (zipL2 h l1 l2).objs.size, .ref (zipL3 h l1 l2).objs.size] }
end
end Mine
end

section
set_option Elab.async false
set_option maxRecDepth 100000
namespace Mine
open PySem PyProof.Rows
noncomputable def Bf (i : Nat) : AEnv → Res T := fun ρ => ob (X1 ρ i) fun _ => .ok (.sh .none) (ρ.set i (some (.ow true (.list []))))
section
variable {G : Gd} {k : Nat} {sc : Scope}
theorem DH {x : Str} {p apos pos : Pos} {i : Nat} (hx : (Qg sc)[i]? = some x) (hd : (x == ("__debug__" : Str)) = false) (hn : (x == ("__classdict__" : Str)) = false) (hline : (apos.endLine == pos.line) = true) : J4 G k sc (.Call (.Attribute (.Name x p) "clear" apos) [] [] pos) (Bf i) := by
 intro cx ok fn ρ S s r Q E out
 obtain ⟨ds, h0, out⟩ := out.ob
 obtain ⟨t0, l0⟩ := ZX h0
 obtain ⟨a, vs, n, hv, ho, q, hsz⟩ := r.own hx t0
 refine wpAny_Call_method rfl rfl hline F.plainAttrs_list F.slot_list_clear F.type_list_clear ?_
 refine wpAny_Name (Zr (ok.mono (Nat.zero_le _)) hv hn rfl ?_) hd
 refine ⟨⟨_, ho, rfl⟩, fun b eb => ?_, ?_⟩
 ·cases eb; exact ⟨_, ho, rfl⟩
 refine PySem.P.clear_list ho ?_ (by rw [hsz, sizeLine_eq]; exact omB l0)
 obtain ⟨m', hm'⟩ := ZV (fun _ => #[]) ho
 obtain ⟨r₂, x₂, v₂⟩ := r.mutate fn.bh hx t0 hv (Heap.SameBut.update ..) hm' (ds' := []) .nil
 exact out _ _ s.toks S r₂ .none x₂ fun _ => v₂
theorem Hn {x : Str} {p apos pos : Pos} (i : Nat) (hx : (Qg sc)[i]? = some x := by kernel_rfl) (hd : (x == ("__debug__" : Str)) = false := by kernel_rfl) (hn : (x == ("__classdict__" : Str)) = false := by kernel_rfl) (hline : (apos.endLine == pos.line) = true := by rfl) : J4 G k sc (.Call (.Attribute (.Name x p) "clear" apos) [] [] pos) (Bf i) := DH hx hd hn hline
end
end Mine
end

section
set_option Elab.async false
set_option maxRecDepth 100000
namespace Mine
open PySem PyProof.Rows
section
variable {G : Gd} {cx : Cx} {sc : Scope} {ρ : AEnv} {S S' : Addr → Prop} {h h' : Heap}
theorem Rel.callO {a : Addr} {i : Nat} {x : Str} {hs hs' : List D} (r : Rel G cx sc ρ S h) (bh : G.B.StaysIn cx.h₀) (hx : (Qg sc)[i]? = some x) (hi : ρ[i]? = some (some (.ow true (.list hs)))) (hv : Var cx.env h x (.ref a))
  (kp : ∀ b o, b ≠ a → h.get? b = some o → Kept h' b o) (hb : G.B.StaysIn h') (sub : ∀ b, S b → S' b) (new : ∀ b, S' b → S b ∨ h.get? b = none) (sd : Ve S' h') (hS' : ¬ S' a) (ow : X2 S' h' a (.list hs')) :
  Rel G cx sc (ρ.set i (some (.ow true (.list hs')))) S' h' ∧ Ext S h S' h' ∧ QA cx.env h h' := by
 obtain ⟨w, hw, b, rfl, ns, ⟨vs, n, e, q⟩, hn⟩ := r.vars i x _ hx hi
 cases Var.inj hv hw
 obtain ⟨vs', n', e', q'⟩ := ow
 have e'' : (h'.update a fun _ => { cls := .type "list", data := .seq vs n }).get? a = some { cls := .type "list", data := .seq vs n } := Heap.get?_update_self _ e' rfl
 have oth : ∀ b, b ≠ a → (h'.update a fun _ => { cls := .type "list", data := .seq vs n }).get? b = h'.get? b := fun b hb => Heap.get?_update_other _ _ (Ne.symm hb)
 have kp' : Kp h (h'.update a fun _ => { cls := .type "list", data := .seq vs n }) := fun b o eb => by
  by_cases hb : b = a
  ·subst hb
   rw [e] at eb; cases eb
   exact ⟨_, e'', fun _ => rfl⟩
  ·obtain ⟨sl, e₁, k⟩ := kp b o hb eb
   exact ⟨sl, (oth b hb).trans e₁, k⟩
 have hBa : G.B.get? a = none := by
  cases z : G.B.get? a with
  | none => rfl
  | some o => have := bh a o z; rw [hn rfl] at this; cases this
 obtain ⟨r₁, x₁⟩ := r.kpS (S' := S') kp' (fun b o eb => (oth b (by rintro rfl; rw [hBa] at eb; cases eb)).trans (hb b o eb)) sub new (fun b qb => let ⟨o, eo⟩ := sd b qb; ⟨o, (oth b (by rintro rfl; exact hS' qb)).trans eo⟩)
 have v₁ := r.same kp'
 have x₃ : Ext S' h' S' (h'.update a fun _ => { cls := .type "list", data := .seq vs n }) := RV.but e' YU hS' (fun b o hb eb => (oth b hb).trans eb) ⟨_, e''⟩
 obtain ⟨r₂, x₂, v₂⟩ := r₁.mutate (h' := h') bh hx hi (v₁ _ _ hv) ⟨(Heap.SameBut.update ..).1.symm, fun b hb => (oth b hb).symm⟩ e' (q'.ext x₃)
 exact ⟨r₂, x₁.trans x₂, v₁.trans v₂⟩
end
noncomputable def Hg (G : Gd) (a : Addr) (S : Addr → Prop) (s : Shared) (hs : List D) (R : Result → Shared → Prop) : Option (D × D) → Prop
 | some (r, d) => ∀ v h' tk S', (∀ b o, b ≠ a → s.heap.get? b = some o → Kept h' b o) → G.B.StaysIn h' → (∀ b, S b → S' b) → (∀ b, S' b → S b ∨ s.heap.get? b = none) → Ve S' h' → ¬ S' a → X2 S' h' a (.list (hs ++ [d])) → RV S' h' v r → R (.ok (.ret v)) { s with heap := h', toks := tk }
 | none => False
noncomputable def VC (G : Gd) (k : Nat) (f : Value) (F : Addr → List D → Option (D × D)) : Prop :=
 ∀ (A : Around) (fs : List Env) (S : Addr → Prop) (s : Shared) (vs : List Value) (ds hs : List D) (a : Addr), O7 A k → A.frames = some fs → (G.quiet = true → A.handled = none) → (∀ v, A.handled = some v → ∃ C, RV S s.heap v (.exc C)) → FF G.B s.heap fs → G.B.StaysIn s.heap → Ve S s.heap → RVs S s.heap vs ds →
  ¬ S a → G.B.get? a = none → hs.length ≤ 1000000 → X2 S s.heap a (.list hs) → ∀ R, Hg G a S s hs R (F a ds) → codeAny G.M A (.call f ⟨vs ++ [.ref a], []⟩) R s
noncomputable def Od (ρ : AEnv) (j : Nat) (a : Addr) : Bool := match ρ[j]? with
 | some (some (.sh (.glob (.ref y)))) => y == a
 | _ => false
set_option tactic.hygienic true in
theorem CH {ρ : AEnv} {j : Nat} {a : Addr} (h : Od ρ j a = true) : ρ[j]? = some (some (.sh (.glob (.ref a)))) := by
 unfold Od at h
 split at h
 ·rename_i y e; rw [e, beq_iff_eq.mp h]
 ·cases h
noncomputable def Fs : Res Fl → Option D
 | .ok (.ret (.sh r)) _ => some r
 | _ => none
theorem Ex {r : Res Fl} {d : D} (h : Fs r = some d) : ∃ ρ, r = .ok (.ret (.sh d)) ρ := by
 unfold Fs at h
 split at h
 ·cases h; exact ⟨_, rfl⟩
 ·cases h
noncomputable def eOk {α : Type} : Res α → Option (α × AEnv)
 | .ok t ρ => some (t, ρ)
 | _ => none
theorem FZ {α : Type} {r : Res α} {t : α} {ρ : AEnv} (h : eOk r = some (t, ρ)) : r = .ok t ρ := by
 unfold eOk at h
 split at h
 ·cases h; rfl
 ·cases h
noncomputable def GT (j : Nat) (fe : AEnv → Res T) (f : AEnv → Res Fl) (a : Addr) (ρ : AEnv) : Option (D × D) := if Od ρ j a then (eOk (fe ρ)).bind fun p => if Yc p.2 then (Fs (f p.2)).map (·, p.1.val) else none else none
noncomputable def E5 : Res Fl → Option AEnv
 | .ok .next ρ => some ρ
 | _ => none
theorem DM {r : Res Fl} {ρ : AEnv} (h : E5 r = some ρ) : r = .ok .next ρ := by
 unfold E5 at h
 split at h
 ·cases h; rfl
 ·cases h
noncomputable def Ec (n : Nat) (is : List Nat) (j : Nat) (pre : AEnv → Res Fl) (fe : AEnv → Res T) (f : AEnv → Res Fl) (a : Addr) (ds : List D) : Option (D × D) := if ds.length + 1 = is.length then (E5 (pre (Wg n is (ds ++ [.glob (.ref a)])))).bind (GT j fe f a) else none
theorem RVs.snoc {S : Addr → Prop} {h : Heap} {v : Value} {d : D} {vs : List Value} {ds : List D} (q : RVs S h vs ds) (k : RV S h v d) : RVs S h (vs ++ [v]) (ds ++ [d]) := RVs.append (.cons k .nil) q
set_option tactic.hygienic true in
theorem Gv {G : Gd} (g : Gr G) {k : Nat} (a : Addr) (n : Nat) (is : List Nat) (j : Nat) (x : Str) {pre f : AEnv → Res Fl} {fe : AEnv → Res T} {sts : List Stmt} {e : Expr} {p apos pos epos : Pos} (h : SPre G k (QZ G.K a).scope (.Expr (.Call (.Attribute (.Name x p) "append" apos) [e] [] pos) epos :: sts) (Z3 (QZ G.K a)) pre) (he : Sim G k (QZ G.K a).scope e fe) (hr : Yt G k (QZ G.K a).scope sts f)
  (hbind : ∀ vs : List Value, vs.length = (Xe (QZ G.K a)).length → bindArgs (QZ G.K a) ⟨vs, []⟩ = pure ((Xe (QZ G.K a)).zip vs)) (hn : (Qg (QZ G.K a).scope).length = n) (hi : Yv (Qg (QZ G.K a).scope) (Xe (QZ G.K a)) = is) (hx : (Qg (QZ G.K a).scope)[j]? = some x)
  (hdb : (x == ("__debug__" : Str)) = false) (hnc : (x == ("__classdict__" : Str)) = false) (hu : ∀ env, backTo pos (starEach [e] env) = [(false, eval e env)]) (hline : (apos.endLine == pos.line) = true) (hsw : ∀ env : Env, swapsWith (.Call (.Attribute (.Name x p) "append" apos) [e] [] pos) none epos.line env = pure false)
  (hf : JY G.K a = true) (hc : W.codeIn G.K (QZ G.K a).code (QZ G.K a).qualname = true) (hpl : JM (QZ G.K a) = true) :
  VC G (k + 1) (.ref a) (Ec n is j pre fe f) := by
 obtain ⟨fo, h1, h2⟩ := VI g hf
 unfold JM at hpl
 simp only [Bool.and_eq_true, beq_iff_eq, Bool.not_eq_true'] at hpl
 obtain ⟨⟨⟨⟨⟨⟨⟨⟨⟨p1, p2⟩, p3⟩, p4⟩, p5⟩, p6⟩, p7⟩, p8⟩, p9⟩, p10⟩ := hpl
 have p7' : ∀ x ∈ Xe (QZ G.K a), (Qg (QZ G.K a).scope).contains x = true ∧ ((QZ G.K a).scope.names.lookup x = some .local ∨ (QZ G.K a).scope.names.lookup x = some .cell) := fun x hx => by
  have := List.all_eq_true.mp p7 x hx
  simpa using this
 have hb : (QZ G.K a).body = .stmts (Z3 (QZ G.K a)) := by
  unfold Z3
  split at p1
  ·rename_i b e; rw [e]
  ·cases p1
 intro A fs S s vs ds hs c room fr hd hok ff hB sd rv hSc hBc hlen₀ own R fin
 cases hF : Ec n is j pre fe f c ds with
 | none => rw [hF] at fin; exact fin.elim
 | some rd =>
 obtain ⟨rr, dd⟩ := rd
 rw [hF] at fin
 obtain ⟨hlen, hF⟩ := ifs hF
 obtain ⟨ρ₁, hpre, hF⟩ := Option.bind_eq_some_iff.mp hF
 obtain ⟨hrf, hF⟩ := ifs hF
 obtain ⟨⟨t, ρ₂⟩, hfe, hF⟩ := Option.bind_eq_some_iff.mp hF
 obtain ⟨hsh, hF⟩ := ifs hF
 obtain ⟨r', hfr, hF⟩ := Option.map_eq_some_iff.mp hF
 cases hF
 obtain ⟨ρ₃, hfr⟩ := Ex hfr
 have hil : is.length = (Xe (QZ G.K a)).length := by rw [← hi]; unfold Yv; simp
 obtain ⟨ws, nw, ec, qc⟩ := own
 have rv' : RVs S s.heap (vs ++ [.ref c]) (ds ++ [.glob (.ref c)]) := rv.snoc (.glob _ fun b e => by cases e; exact ⟨_, ec⟩)
 refine EX g.ok (body := Z3 (QZ G.K a)) (ps := Xe (QZ G.K a)) h1 h2 (W.codeRec_of g.ok.K hc) hb (by simpa using p2) p3 p4 hbind (fun x hx => (p7' x hx).2) (X3 p6) (X3 p5) p8 p9 p10 room fr hd hok ff hB sd rv' (by rw [List.length_append, List.length_singleton, hlen, hil]) fun cx h₁ tk₁ ok fn e₀ eP eF eL r₀ hk₁ => ?_
 rw [OK (X3 p5) (List.all_eq_true.mpr fun x hx => (p7' x hx).1), hn, hi] at r₀
 refine h.wp ok fn (s := { s with heap := h₁, toks := tk₁ }) r₀ ?_
 rw [DM hpre]
 intro h₂ t₂ S₂ r₂ x₂
 obtain ⟨v, hv, tv⟩ := r₂.vars j x _ hx (CH hrf)
 cases tv
 have ec₀ : cx.h₀.get? c = some { cls := .type "list", data := .seq ws nw } := by rw [e₀]; exact ec
 have ec₂ := r₂.keep.exact ec₀ (.seq rfl)
 rw [execs_cons]
 refine wpAny_bind (wpAny_Expr_any ?_ (by unfold interactive; rw [ok.hsc, ok.hk]; rfl) (hsw cx.env))
 refine wpAny_Call_method rfl (by rw [hu]; rfl) hline F.plainAttrs_list F.slot_list_append F.type_list_append ?_
 refine wpAny_Name (Zr (ok.mono (Nat.zero_le _)) hv hnc rfl ?_) hdb
 refine ⟨⟨_, ec₂, rfl⟩, fun b eb => (by cases eb; exact ⟨_, ec₂, rfl⟩), ?_⟩
 rw [hu]
 refine PySem.P.append_list ((he cx ok ρ₁ S₂ { s with heap := h₂, toks := t₂ } r₂).shared _ _ ?_)
 rw [FZ hfe]
 intro v h₃ t₃ S₃ r₃ j₃ x₃ v₃
 have ec₃ := r₃.keep.exact ec₀ (.seq rfl)
 have hsz : ws.size ≤ sizeLine := by
  have := qc.length
  rw [Array.length_toList] at this
  rw [this, sizeLine_eq]; exact Nat.le_trans hlen₀ (by decide)
 refine ⟨ws, nw, hsz, ec₃, ?_⟩
 show wpAny G.M cx.A (execs sts cx.env) _ _ _
 obtain ⟨m', hm'⟩ := ZV (fun xs => xs.push v) ec₃
 have hS₃ : ¬ S₃ c := fun q => by
  rcases r₃.sok c q with q | q
  ·exact hSc (eP ▸ q)
  ·rw [ec₀] at q; cases q
 have ge : (cx.h₀.update c fun _ => { cls := .type "list", data := .seq (ws.push v) m' }).get? c = some { cls := .type "list", data := .seq (ws.push v) m' } := Heap.get?_update_self _ ec₀ rfl
 have go : ∀ b, b ≠ c → (cx.h₀.update c fun _ => { cls := .type "list", data := .seq (ws.push v) m' }).get? b = cx.h₀.get? b := fun b hb => Heap.get?_update_other _ _ (Ne.symm hb)
 have hloc : c ≠ cx.env.locals := by
  rintro rfl
  obtain ⟨m, o, es, ep, e', hd', _⟩ := r₃.ns
  rw [ec₃] at e'; cases e'; cases hd'
 have hff : ∀ env ∈ cx.fs, env.frame ≠ some c := fun env he q => by
  obtain ⟨_, L, o, b, _, d, es, n, z⟩ := r₃.ff env he
  rw [q] at b; cases b
  rw [ec₃] at d; cases d; cases z
 generalize (cx.h₀.update c fun _ => { cls := .type "list", data := .seq (ws.push v) m' }) = g' at ge go
 obtain ⟨r₄, x₄, v₄⟩ := Rel.rebase (cx := cx) (g := cx.h₀) (g' := g') r₃ hsh ec₃ YU (fun v q => by cases q) hS₃ hloc hBc hff (Heap.SameBut.update ..) hm' go ge ⟨_, ec₀⟩
 have bh' : G.B.StaysIn g' := fun b o q => (go b (by rintro rfl; rw [hBc] at q; cases q)).trans (ok.bh b o q)
 have ok' : CxOk G (cx.at g') (QZ G.K a).scope k := ⟨ok.hsc, ok.hk, ok.hg, ok.hb, ok.fr, ok.top, ok.hd, ok.room, ok.nodup, bh'⟩
 have nw' : ∀ b, cx.h₀.get? b = none → g'.get? b = none := fun b q => (go b (by rintro rfl; rw [ec₀] at q; cases q)).trans q
 have old : ∀ b, g'.get? b = none → cx.h₀.get? b = none := fun b q => by rw [← go b (by rintro rfl; rw [ge] at q; cases q)]; exact q
 have fn' : FnOk G (cx.at g') := ⟨⟨bh', nw' _ fn.lnew, fun y z b hy hz hb => fn.cap y z b hy hz (old b hb), fn.loc⟩, fun y q => let ⟨b, hb, hn⟩ := fn.has y q; ⟨b, hb, nw' b hn⟩⟩
 refine hr (cx.at g') ok' fn' ρ₂ S₃ { s with heap := _, toks := t₃ } r₄ _ _ ?_
 rw [hfr]
 intro fl h₅ t₅ S₅ r₅ j₅ x₅ _
 cases fl <;> first | exact j₅.elim | skip
 have kc : h₅.get? c = some { cls := .type "list", data := .seq (ws.push v) m' } := r₅.keep.exact ge (.seq rfl)
 have xs := (((Ext.of_keeps hk₁).trans x₂).trans x₃).trans (x₄.trans x₅)
 refine fin _ h₅ t₅ S₅ (fun b o hb eb => r₅.keep b o ((go b hb).trans (by rw [e₀]; exact eb))) r₅.base xs.sub (fun b q => ?_) r₅.sdom (fun q => ?_) ⟨ws.push v, m', kc, ?_⟩ j₅
 ·exact (r₅.sok b q).imp (fun q => eP ▸ q) fun q => by rw [← e₀]; exact old b q
 ·rcases r₅.sok c q with q | q
  ·exact hSc (eP ▸ q)
  ·have q : g'.get? c = none := q
   rw [ge] at q; cases q
 ·rw [Array.toList_push]
  exact RVs.append (.cons (j₃.ext (x₄.trans x₅)) .nil) (qc.ext xs)
end Mine
end

section
set_option Elab.async false
set_option maxRecDepth 100000
namespace Mine
open PySem PyProof.Rows
noncomputable def K7 (bs : List Bv) (i : Nat) : Option (List Bv) := match bs.reverse with
 | .var j :: r => if j = i then some r.reverse else none
 | _ => none
set_option tactic.hygienic true in
theorem Cc {bs bs' : List Bv} {i : Nat} (h : K7 bs i = some bs') : bs = bs' ++ [.var i] := by
 unfold K7 at h
 split at h
 ·rename_i j r e
  obtain ⟨e1, h2⟩ := ifs h
  subst e1
  cases h2
  rw [← List.reverse_reverse bs, e, List.reverse_cons]
 ·cases h
noncomputable def BB (F : Addr → List D → Option (D × D)) (ds : List D) : Option (D × D) := by
 classical exact if h : ∃ o, ∀ x, F x ds = some o then some (Classical.choose h) else none
theorem CU {F : Addr → List D → Option (D × D)} {ds : List D} {o : D × D} (h : ∀ x, F x ds = some o) : BB F ds = some o := by
 unfold BB
 have hh : ∃ o, ∀ x, F x ds = some o := ⟨o, h⟩
 rw [dif_pos hh]
 exact (Classical.choose_spec hh 0).symm.trans (h 0)
set_option tactic.hygienic true in
theorem FX {F : Addr → List D → Option (D × D)} {ds : List D} {o : D × D} (h : BB F ds = some o) (x : Addr) : F x ds = some o := by
 unfold BB at h
 split at h
 ·rename_i hh; cases h; exact Classical.choose_spec hh x
 ·cases h
noncomputable def Uo (i : Nat) (F : Addr → List D → Option (D × D)) (fa : AEnv → Res (List Bv)) : AEnv → Res T := fun ρ => (fa ρ).bind fun bs ρ₁ => ob (K7 bs i) fun bs' => ob (X0 ρ₁ bs') fun ds => if bs'.all (ZR ρ₁) = true then ob (X1 ρ₁ i) fun hs => ob (BB F ds) fun p => .ok (.sh p.1) (ρ₁.set i (some (.ow true (.list (hs ++ [p.2]))))) else .stuck
section
variable {G : Gd} {k : Nat} {sc : Scope}
theorem BVals.snoc {cx : Cx} {S : Addr → Prop} {h : Heap} {b : Bv} {bs : List Bv} : ∀ {vs : List Value}, BVals cx sc S h vs (bs ++ [b]) → ∃ vs' v, vs = vs' ++ [v] ∧ BVals cx sc S h vs' bs ∧ YD cx sc S h v b := by
 induction bs with
 | nil =>
  intro vs q
  cases q with
  | cons q r => cases r; exact ⟨[], _, rfl, .nil, q⟩
 | cons c bs ih =>
  intro vs q
  cases q with
  | cons q r =>
   obtain ⟨vs', v, rfl, q1, q2⟩ := ih r
   exact ⟨_ :: vs', v, rfl, .cons q q1, q2⟩
theorem DU {g : Str} {p pos : Pos} {a : Addr} {fo : Obj} {fd : FuncData} {i : Nat} {F : Addr → List D → Option (D × D)} {args : List Expr} {fa : AEnv → Res (List Bv)} {k' : Nat} (hn : Sim G k sc (.Name g p) (Qb (.glob (.ref a)))) (hfo : G.B.get? a = some fo) (hfd : fo.data = .func fd)
  (hF : VC G k' (.ref a) F) (hk : k' ≤ k) (ha : YS G k sc args fa) (hu : args.all QO = true) : Sim G k sc (.Call (.Name g p) args [] pos) (Uo i F fa) := by
 intro cx ok ρ S s r Q E out
 show wpAny G.M cx.A (do callWith pos (← eval (.Name g p) cx.env) [] (backTo pos (starEach args cx.env)) []) Q E s
 refine wpAny_bind (hn cx ok ρ S s r _ _ ?_)
 intro v h₁ t₁ S₁ r₁ j₁ x₁ v₁
 have hv : v = .ref a := by cases j₁; rfl
 subst hv
 refine Calls.callWith_function (o := fo) (fd := fd) (Zy hu ?_)
 refine ha pos cx ok ρ S₁ { s with heap := h₁, toks := t₁ } r₁ _ _ ?_
 refine out.step (x₁) fun bs ρ' out vs h₂ t₂ S₂ r₂ j₂ x₂ v₂ => ?_
 refine ⟨⟨r₂.base _ _ hfo, hfd⟩, ?_⟩
 obtain ⟨bs', hb', out⟩ := out.ob
 obtain ⟨ds, hds, out⟩ := out.ob
 obtain ⟨hsh, out⟩ := out.when
 obtain ⟨hs, ho, out⟩ := out.ob
 obtain ⟨pr, hp, out5⟩ := out.ob
 cases Cc hb'
 obtain ⟨vs', v, rfl, q1, x, hx, hv⟩ := j₂.snoc
 obtain ⟨t0, l0⟩ := ZX ho
 obtain ⟨w, hw, c, rfl, nS, ow, hn'⟩ := r₂.vars i x _ hx t0
 cases Var.inj hv hw
 have hBc : G.B.get? c = none := by
  cases z : G.B.get? c with
  | none => rfl
  | some o => have := ok.bh c o z; rw [hn' rfl] at this; cases this
 refine wpAny_call ?_
 refine hF cx.A cx.fs S₂ { s with heap := h₂, toks := t₂ } vs' ds hs c (ok.room.mono hk) ok.fr ok.hd r₂.hok r₂.ff r₂.base r₂.sdom (q1.rvs r₂ hsh hds) nS hBc l0 ow _ ?_
 rw [FX hp c]
 intro v h' tk S' kp hb sub new sd nS' own rv
 obtain ⟨r₃, x₃, v₃⟩ := r₂.callO ok.bh hx t0 hv kp hb sub new sd nS' own
 exact out5 v h' tk S' r₃ rv ((x₁.trans x₂).trans x₃) fun q => ((v₁ q).trans (v₂ q)).trans v₃
end
end Mine
end

section
set_option Elab.async false
set_option maxRecDepth 100000
namespace Mine
open PySem PyProof.Rows
theorem VV {ρ : AEnv} {i : Nat} {a : T} {d : T} (h : (ρ.set i (some a))[i]? = some (some d)) : d = a := by
 by_cases hl : i < ρ.length
 ·rw [List.getElem?_set_self hl] at h; cases h; rfl
 ·rw [List.getElem?_eq_none (by rw [List.length_set]; exact Nat.le_of_not_lt hl)] at h; cases h
theorem Vv {ρ : AEnv} {l : Nat} {m : T} (h : (ρ.set l none)[l]? = some (some m)) : False := by
 by_cases hl : l < ρ.length
 ·rw [List.getElem?_set_self hl] at h; cases h
 ·rw [List.getElem?_eq_none (by rw [List.length_set]; exact Nat.le_of_not_lt hl)] at h; cases h
theorem Cr {ρ : AEnv} (h : Yc ρ = true) (i : Nat) : Yc (ρ.set i none) = true := List.all_eq_true.mpr fun u hu => by
 rcases List.mem_or_eq_of_mem_set hu with q | rfl
 ·exact List.all_eq_true.mp h u q
 ·rfl
section
variable {G : Gd} {k : Nat} {cx : Cx} {sc : Scope} {ρ : AEnv} {i : Nat} {x : Str} {C Sp : Addr → Prop} {hc h h' : Heap} {a0 a1 a2 : Addr}
structure MI (G : Gd) (cx : Cx) (sc : Scope) (ρ : AEnv) (i : Nat) (x : Str) (C : Addr → Prop) (hc : Heap) (Sp : Addr → Prop) (a0 a1 a2 : Addr) (h : Heap) : Prop where
 r : Rel G cx sc [] Sp h
 cs : ∀ b, C b → Sp b
 xc : Ext C hc C h
 hd : VW cx sc (ρ.set i none) h C hc
 vx : Var cx.env h x (.ref a0)
 s0 : Sp a0
 s1 : Sp a1
 s2 : Sp a2
 e0 : ∃ n, h.get? a0 = some { cls := .type "list", data := .seq #[.ref a1, .ref a2] n }
 l1 : ∃ o, h.get? a1 = some o
 l2 : ∃ o, h.get? a2 = some o
theorem MI.step {ρ' : AEnv} {S' : Addr → Prop} (q : MI G cx sc ρ i x C hc Sp a0 a1 a2 h) (r' : Rel G cx sc ρ' S' h') (e : Ext Sp h S' h') (v : QA cx.env h h') : MI G cx sc ρ i x C hc Sp a0 a1 a2 h' :=
 ⟨r'.nil e.sub, q.cs, q.xc.trans (e.shrink q.cs), q.hd.same v, v _ _ q.vx, q.s0, q.s1, q.s2, let ⟨n, e0⟩ := q.e0; ⟨n, e.exact e0 (.inl q.s0) (.seq rfl)⟩, let ⟨o, l⟩ := q.l1; e.dom _ _ l, let ⟨o, l⟩ := q.l2; e.dom _ _ l⟩
theorem MI.read (q : MI G cx sc ρ i x C hc Sp a0 a1 a2 h) (ha : Yc ρ = true) (hx : (Qg sc)[i]? = some x) {d : D} (rv : RV Sp h (.ref a0) d) : Rel G cx sc (ρ.set i (some (.sh d))) Sp h :=
 q.r.remake (fun _ z => z) (KH ha _ _) fun l y e hy hl => by
  by_cases hli : l = i
  ·subst hli
   rw [hx] at hy; cases hy
   obtain rfl := T.sh.inj (VV hl)
   exact ⟨_, q.vx, rv⟩
  ·rw [List.getElem?_set_ne (Ne.symm hli)] at hl
   obtain ⟨v, hv, rv'⟩ := q.hd l y e hy (by rw [List.getElem?_set_ne (Ne.symm hli)]; exact hl)
   exact ⟨v, hv, (rv'.ext q.xc).ext (Ext.grow q.cs)⟩
theorem MI.pins (q : MI G cx sc ρ i x C hc Sp a0 a1 a2 h) (hx : (Qg sc)[i]? = some x) : Rel G cx sc ((Bo cx sc h).set i (some (.sh (.list [.glob (.ref a1), .glob (.ref a2)])))) Sp h := by
 have rpin := q.r.pin
 refine q.r.remake (fun _ z => z) ?_ fun l z d hz hl => ?_
 ·refine KH (List.all_eq_true.mpr fun u hu => ?_) _ _
  obtain ⟨m, hm⟩ := List.getElem?_of_mem hu
  cases u with
  | none => rfl
  | some u =>
   cases u with
   | sh d => rfl
   | ow b d =>
    exfalso
    unfold Bo at hm
    rw [List.getElem?_map] at hm
    obtain ⟨z, _, hz⟩ := Option.map_eq_some_iff.mp hm
    by_cases q : Xn z = false ∧ ∃ v, Var cx.env h z v
    ·rw [dif_pos q] at hz; cases hz
    ·rw [dif_neg q] at hz; cases hz
 ·by_cases hli : l = i
  ·subst hli
   rw [hx] at hz; cases hz
   obtain rfl := T.sh.inj (VV hl)
   obtain ⟨n, e0⟩ := q.e0
   exact ⟨_, q.vx, .list q.s0 e0 ⟨rfl, rfl, rfl⟩ rfl (.cons (.glob _ fun a e => by cases e; exact q.l1) (.cons (.glob _ fun a e => by cases e; exact q.l2) .nil))⟩
  ·rw [List.getElem?_set_ne (Ne.symm hli)] at hl
   exact rpin.held l z d hz hl
theorem MI.turn (q : MI G cx sc ρ i x C hc Sp a0 a1 a2 h) {t : Addr} {vt : Array Value} {nt : Nat} (hC : ¬ C t) (h0 : cx.h₀.get? t = none) (bh : G.B.StaysIn cx.h₀) (hne : t ≠ a0) (hh : cx.A.handled = none) (et : h.get? t = some { cls := .type "list", data := .seq vt nt }) (sb : Heap.SameBut t h h') (et' : ∃ o, h'.get? t = some o) :
  MI G cx sc ρ i x C hc Sp a0 a1 a2 h' := by
 have kb : KB [t] h h' := KB.of_sameBut sb et'
 have hB : G.B.get? t = none := by
  cases z : G.B.get? t with
  | none => rfl
  | some o => have := bh t o z; rw [h0] at this; cases this
 obtain ⟨r', v'⟩ := q.r.turnNil hh (wr := [t]) (fun b hb => by rw [List.mem_singleton.mp hb]; exact ⟨h0, hB⟩) (fun b hb => by rw [List.mem_singleton.mp hb]; exact ⟨_, et, .seq rfl, fun v q => by cases q⟩) kb
 have lv : ∀ b, (∃ o, h.get? b = some o) → ∃ o, h'.get? b = some o := fun b ⟨o, e⟩ => by
  by_cases hb : b = t
  ·rw [hb]; exact et'
  ·exact ⟨o, (sb.2 b hb).trans e⟩
 exact ⟨r', q.cs, q.xc.trans (RV.but et YU hC (fun b o hb e => (sb.2 b hb).trans e) et'), q.hd.same v', v' _ _ q.vx, q.s0, q.s1, q.s2, let ⟨n, e0⟩ := q.e0; ⟨n, (sb.2 a0 (Ne.symm hne)).trans e0⟩, lv _ q.l1, lv _ q.l2⟩
theorem MI.done (q : MI G cx sc ρ i x C hc Sp a0 a1 a2 h) (ha : Yc ρ = true) : Rel G cx sc (ρ.set i none) C h := q.r.remake q.cs (Cr ha i) (q.hd.ext q.xc)
theorem Ek {ρs : AEnv} {d0 d1 d : D} {c : Int} (hl : ρs[i]? = some (some (.sh (.list [d0, d1])))) (hc : QT (.list [d0, d1]) (.int c) = some (.sh d)) : Qq QT (eOp i) (Qd (Qb (.int c))) ρs = .ok (.sh d) ρs := by
 have h1 : eOp i ρs = .ok (.var i) ρs := by conv => lhs; whnf; rw [hl]
 have h2 : Bv.get ρs (.var i) = some (.list [d0, d1]) := by conv => lhs; whnf; rw [hl]; whnf
 unfold Qq
 rw [h1]
 show (ob (Bv.get ρs (.var i)) fun x => ob (Bv.get ρs (.val (.int c))) fun y => ob (QT x y) fun t => Res.ok t ρs) = _
 rw [h2]
 show (ob (QT (.list [d0, d1]) (.int c)) fun t => Res.ok t ρs) = _
 rw [hc]; rfl
theorem K9 (hx : (Qg sc)[i]? = some x) {t : T} : ((Bo cx sc h).set i (some t))[i]? = some (some t) := List.getElem?_set_self (by unfold Bo; rw [List.length_map]; exact (List.getElem?_eq_some_iff.mp hx).1)
noncomputable def Ux (G : Gd) (k : Nat) (sc : Scope) (i : Nat) (x : Str) (st : Stmt) (fst : Bool) : Prop :=
 ∀ (cx : Cx), CxOk G cx sc k → FnOk G cx → cx.A.handled = none → ∀ (ρ : AEnv) (C : Addr → Prop) (hc : Heap) (Sp : Addr → Prop) (a0 a1 a2 : Addr) (s : Shared) (vt : Array Value) (nt : Nat) (Q : Flow → Shared → Prop) (E : Value → Shared → Prop), MI G cx sc ρ i x C hc Sp a0 a1 a2 s.heap →
  (¬ C (cond fst a1 a2)) → cx.h₀.get? (cond fst a1 a2) = none → (cond fst a1 a2) ≠ a0 → s.heap.get? (cond fst a1 a2) = some { cls := .type "list", data := .seq vt nt } → vt.size ≤ sizeLine →
  (∀ h' tk, MI G cx sc ρ i x C hc Sp a0 a1 a2 h' → (∀ b o, b ≠ (cond fst a1 a2) → Sp b → s.heap.get? b = some o → Ym o → h'.get? b = some o) → Q .next { s with heap := h', toks := tk }) → wpAny G.M cx.A (exec st cx.env) Q E s
theorem B1 {xq cp sp ap ap2 ep : Pos} {ck : Nat} {c : Int} {fst : Bool} (hc : c = cond fst 0 1) (hx : (Qg sc)[i]? = some x)
  (hsub : Sim G k sc (.Subscript (.Name x xq) (.Constant (.int c) ck cp) sp) (Qq QT (eOp i) (Qd (Qb (.int c)))))
  (hswe : ∀ env : Env, swapsWith (.Call (.Attribute (.Subscript (.Name x xq) (.Constant (.int c) ck cp) sp) "clear" ap) [] [] ap2) none ep.line env = pure false) (hline : (ap.endLine == ap2.line) = true) :
  Ux G k sc i x (.Expr (.Call (.Attribute (.Subscript (.Name x xq) (.Constant (.int c) ck cp) sp) "clear" ap) [] [] ap2) ep) fst := by
 intro cx ok fn hh ρ C hc' Sp a0 a1 a2 s vt nt Q E q hC h0 hne et hsz fin
 have st : Sp (cond fst a1 a2) := by cases fst; exact q.s2; exact q.s1
 refine wpAny_Expr_any ?_ (by unfold interactive; rw [ok.hsc, ok.hk]; rfl) (hswe cx.env)
 refine wpAny_Call_method rfl rfl hline PySem.F.plainAttrs_list PySem.F.slot_list_clear PySem.F.type_list_clear ?_
 refine hsub cx ok _ Sp s (q.pins hx) _ _ ?_
 rw [Ek (d := .glob (.ref (cond fst a1 a2))) (K9 hx) (by subst hc; cases fst <;> rfl)]
 intro v h₁ t₁ S₁ r₁ j₁ x₁ v₁
 obtain rfl := RV.glob_inv j₁
 have e₁ := x₁.exact et (.inl st) (.seq rfl)
 have q₁ := q.step r₁ x₁ (v₁ rfl)
 refine ⟨⟨_, e₁, rfl⟩, fun b eb => by cases eb; exact ⟨_, e₁, rfl⟩, ?_⟩
 refine PySem.P.clear_list e₁ ?_ hsz
 obtain ⟨m', hm'⟩ := ZV (fun _ => #[]) e₁
 exact fin _ _ (q₁.turn hC h0 fn.bh hne hh e₁ (Heap.SameBut.update ..) ⟨_, hm'⟩) fun b o hb hs eb hn => ((Heap.SameBut.update ..).2 b hb).trans (x₁.exact eb (.inl hs) hn)
theorem VS {xq cp sp ap ap2 ep : Pos} {ck : Nat} {c : Int} {fst : Bool} {ea : Expr} {fa : AEnv → Res T} {da : D} (hc : c = cond fst 0 1) (hx : (Qg sc)[i]? = some x) (hea : Sim G k sc ea fa) (hfa : ∀ ρ, fa ρ = .ok (.sh da) ρ)
  (hsub : Sim G k sc (.Subscript (.Name x xq) (.Constant (.int c) ck cp) sp) (Qq QT (eOp i) (Qd (Qb (.int c)))))
  (hswe : ∀ env : Env, swapsWith (.Call (.Attribute (.Subscript (.Name x xq) (.Constant (.int c) ck cp) sp) "append" ap) [ea] [] ap2) none ep.line env = pure false) (hua : ∀ env, backTo ap2 (starEach [ea] env) = [(false, eval ea env)]) (hline : (ap.endLine == ap2.line) = true) :
  Ux G k sc i x (.Expr (.Call (.Attribute (.Subscript (.Name x xq) (.Constant (.int c) ck cp) sp) "append" ap) [ea] [] ap2) ep) fst := by
 intro cx ok fn hh ρ C hc' Sp a0 a1 a2 s vt nt Q E q hC h0 hne et hsz fin
 have st : Sp (cond fst a1 a2) := by cases fst; exact q.s2; exact q.s1
 refine wpAny_Expr_any ?_ (by unfold interactive; rw [ok.hsc, ok.hk]; rfl) (hswe cx.env)
 refine wpAny_Call_method rfl (by rw [hua]; rfl) hline PySem.F.plainAttrs_list PySem.F.slot_list_append PySem.F.type_list_append ?_
 refine hsub cx ok _ Sp s (q.pins hx) _ _ ?_
 rw [Ek (d := .glob (.ref (cond fst a1 a2))) (K9 hx) (by subst hc; cases fst <;> rfl)]
 intro v h₁ t₁ S₁ r₁ j₁ x₁ v₁
 obtain rfl := RV.glob_inv j₁
 have e₁ := x₁.exact et (.inl st) (.seq rfl)
 have q₁ := q.step r₁ x₁ (v₁ rfl)
 refine ⟨⟨_, e₁, rfl⟩, fun b eb => by cases eb; exact ⟨_, e₁, rfl⟩, ?_⟩
 rw [hua]
 refine PySem.P.append_list ?_
 refine hea cx ok _ Sp { s with heap := h₁, toks := t₁ } q₁.r _ _ ?_
 rw [hfa]
 intro v h₂ t₂ S₂ r₂ j₂ x₂ v₂
 have e₂ := x₂.exact e₁ (.inl st) (.seq rfl)
 have q₂ := q₁.step r₂ x₂ (v₂ rfl)
 refine ⟨vt, nt, hsz, e₂, ?_⟩
 obtain ⟨m', hm'⟩ := ZV (fun xs => xs.push v) e₂
 exact fin _ _ (q₂.turn hC h0 fn.bh hne hh e₂ (Heap.SameBut.update ..) ⟨_, hm'⟩) fun b o hb hs eb hn => ((Heap.SameBut.update ..).2 b hb).trans (x₂.exact (x₁.exact eb (.inl hs) hn) (.inl hs) hn)
end
end Mine
end

section
set_option Elab.async false
set_option maxRecDepth 100000
namespace Mine
open PySem PyProof.Rows
structure PairAt (cx : Cx) (C Sp : Addr → Prop) (a0 a1 a2 : Addr) (A B : List D) (h : Heap) : Prop where
 rv : RV Sp h (.ref a0) (.list [.list A, .list B])
 c1 : ¬ C a1
 c2 : ¬ C a2
 k1 : cx.h₀.get? a1 = none
 k2 : cx.h₀.get? a2 = none
 n1 : a1 ≠ a0
 n2 : a2 ≠ a0
 n12 : a1 ≠ a2
 e1 : ∃ vt nt, vt.size ≤ sizeLine ∧ h.get? a1 = some { cls := .type "list", data := .seq vt nt }
 e2 : ∃ vt nt, vt.size ≤ sizeLine ∧ h.get? a2 = some { cls := .type "list", data := .seq vt nt }
section
variable {G : Gd} {k : Nat} {cx : Cx} {sc : Scope} {ρ : AEnv} {i : Nat} {x : Str} {S : Addr → Prop}
theorem PairAt.step {C Sp S' : Addr → Prop} {a0 a1 a2 : Addr} {A B : List D} {h h' : Heap} (q : PairAt cx C Sp a0 a1 a2 A B h) (s1 : Sp a1) (s2 : Sp a2) (e : Ext Sp h S' h') : PairAt cx C Sp a0 a1 a2 A B h' :=
 ⟨q.rv.ext (e.shrink fun _ z => z), q.c1, q.c2, q.k1, q.k2, q.n1, q.n2, q.n12, let ⟨v, n, l, z⟩ := q.e1; ⟨v, n, l, e.exact z (.inl s1) (.seq rfl)⟩, let ⟨v, n, l, z⟩ := q.e2; ⟨v, n, l, e.exact z (.inl s2) (.seq rfl)⟩⟩
theorem C6 {e1 e2 : Expr} {f1 f2 : AEnv → Res T} {xp lp pos : Pos} {m1 m2 : Bool} {A B : List D} {s : Shared} {Q : Flow → Shared → Prop} {E : Value → Shared → Prop} (he1 : Sim G k sc e1 f1) (he2 : Sim G k sc e2 f2) (u1 : QO e1 = true) (u2 : QO e2 = true) (hx : (Qg sc)[i]? = some x) (hlx : sc.names.lookup x = some .local ∨ sc.names.lookup x = some .cell)
  (cl : ∀ (l : Nat) (w : Str), (Qg sc)[l]? = some w → Xn w = false) (hsw : ∀ env : Env, env.scope = sc → swapsWith (.List [e1, e2] lp) (some (.Name x xp)) pos.line env = pure false)
  (ok : CxOk G cx sc k) (fn : FnOk G cx) (r : Rel G cx sc ρ S s.heap) (hf1 : f1 ρ = .ok (.ow m1 (.list A)) ρ) (hf2 : f2 ρ = .ok (.ow m2 (.list B)) ρ) (lA : A.length ≤ 1000000) (lB : B.length ≤ 1000000)
  (fin : ∀ h' tk Sp a0 a1 a2, MI G cx sc ρ i x S s.heap Sp a0 a1 a2 h' → PairAt cx S Sp a0 a1 a2 A B h' → Q .next { s with heap := h', toks := tk }) : wpAny G.M cx.A (exec (.Assign [.Name x xp] (.List [e1, e2] lp) pos) cx.env) Q E s := by
 rw [exec_Assign_Name _ _ _ _ _ (hsw cx.env ok.hsc)]
 refine wpAny_bind (wpAny_standAt (wpAny_bind ?_))
 show wpAny G.M cx.A (do standAt lp; newList (← spliced (backTo lp (starEach [e1, e2] cx.env)))) _ E s
 refine wpAny_bind (wpAny_standAt (wpAny_bind ?_))
 rw [Yi u1]
 refine wpAny_bind (he1 cx ok ρ S s r _ _ ?_)
 rw [hf1]
 intro v h₁ t₁ S₁ r₁ j₁ x₁ v₁
 obtain ⟨a1, rfl, n1, ⟨vA, nA, eA, qA⟩, k1, nv1⟩ := id j₁
 obtain ⟨S₁', r₁', rv₁, x₁'⟩ := r₁.drop j₁
 have s1 : S₁' a1 := by cases rv₁; assumption
 refine wpAny_bind (wpAny_pure ?_)
 refine wpAny_bind (wpAny_holding ?_)
 rw [Yi u2]
 refine wpAny_bind (he2 cx ok ρ S₁' { s with heap := h₁, toks := t₁ } r₁' _ _ ?_)
 rw [hf2]
 intro v h₂ t₂ S₂ r₂ j₂ x₂ v₂
 obtain ⟨a2, rfl, n2, ⟨vB, nB, eB, qB⟩, k2, nv2⟩ := id j₂
 obtain ⟨S₂', r₂', rv₂, x₂'⟩ := r₂.drop j₂
 have s2 : S₂' a2 := by cases rv₂; assumption
 refine wpAny_bind (wpAny_pure ?_)
 refine wpAny_bind (wpAny_holding (wpAny_pure ?_))
 refine wpAny_pure ?_
 refine wpAny_pure ?_
 have eA₂ := x₂.exact eA (.inl s1) (.seq rfl)
 refine W9 (s := { s with heap := h₂, toks := t₂ }) (vs := [.ref a1, .ref a2]) (ds := [.glob (.ref a1), .glob (.ref a2)]) r₂' (.cons (.glob _ fun a e => by cases e; exact ⟨_, eA₂⟩) (.cons (.glob _ fun a e => by cases e; exact ⟨_, eB⟩) .nil)) (show 2 ≤ 1000000 by decide) _ _ ?_
 intro v h₃ t₃ S₃ r₃ j₃ x₃ v₃
 obtain ⟨a0, rfl, n0, ⟨v0, m0, e0, q0⟩, k0, nv0⟩ := id j₃
 have hv0 : v0 = #[.ref a1, .ref a2] := by
  obtain ⟨l⟩ := v0
  generalize hl : ({ toList := l } : Array Value).toList = l' at q0
  cases q0 with
  | cons qa q0 =>
   cases q0 with
   | cons qb q0 =>
    cases q0
    cases RV.glob_inv qa; cases RV.glob_inv qb
    simp only at hl
    rw [hl]
 subst hv0
 obtain ⟨S₄, r₄, rv₄, x₄⟩ := r₃.drop j₃
 have s0 : S₄ a0 := by cases rv₄; assumption
 refine wpAny_bind (wpAny_standAt (wpAny_bind (J1 (s := { s with heap := h₃, toks := t₃ }) (ok.mono (Nat.zero_le _)) fn r₄.pin hx hlx (.inl (cl i x hx)) (t := .sh (.glob (.ref a0))) (.glob _ fun a e => by cases e; exact ⟨_, e0⟩) _ _ ?_)))
 intro _ h₅ t₅ S₅ r₅ _ x₅ _
 refine wpAny_pure ?_
 have xa : Ext S₂' h₂ S₄ h₃ := x₃.trans x₄
 have xb : Ext S₁' h₁ S₄ h₃ := (x₂.trans x₂').trans xa
 have X : Ext S s.heap S₄ h₃ := (x₁.trans x₁').trans xb
 have y₅ : Ext S₄ h₃ S₄ h₅ := x₅.shrink fun _ z => z
 have f1' := y₅.exact (xb.exact eA (.inl s1) (.seq rfl)) (.inl (xb.sub _ s1)) (.seq rfl)
 have f2' := y₅.exact (xa.exact eB (.inl s2) (.seq rfl)) (.inl (xa.sub _ s2)) (.seq rfl)
 have f0' := y₅.exact e0 (.inl s0) (.seq rfl)
 have szA : vA.size ≤ sizeLine := by rw [← Array.length_toList, qA.length, sizeLine_eq]; exact Nat.le_trans lA (by decide)
 have szB : vB.size ≤ sizeLine := by rw [← Array.length_toList, qB.length, sizeLine_eq]; exact Nat.le_trans lB (by decide)
 refine fin h₅ t₅ S₄ a0 a1 a2 ⟨r₅.nil x₅.sub, X.sub, (X.trans y₅).shrink fun _ z => z, fun l y d hy hl => ?_, r₅.unpin hx (K9 hx), s0, xb.sub _ s1, xa.sub _ s2, ⟨_, f0'⟩, ⟨_, f1'⟩, ⟨_, f2'⟩⟩
  ⟨.list s0 f0' ⟨rfl, rfl, rfl⟩ rfl (.cons ((rv₁.ext xb).ext y₅) (.cons ((rv₂.ext xa).ext y₅) .nil)), fun q => n1 (x₁.sub _ q), fun q => n2 (x₂.sub _ (x₁'.sub _ (x₁.sub _ q))), k1, k2, fun q => n0 (q ▸ x₃.sub _ (x₂'.sub _ (x₂.sub _ s1))), fun q => n0 (q ▸ x₃.sub _ s2), fun q => n2 (q ▸ x₂.sub _ s1), ⟨_, _, szA, f1'⟩, ⟨_, _, szB, f2'⟩⟩
 by_cases hli : l = i
 ·subst hli; exact (Vv hl).elim
 ·rw [List.getElem?_set_ne (Ne.symm hli)] at hl
  obtain ⟨v, hv, rv⟩ := r.held l y d hy hl
  exact ⟨v, r₅.unpin hy (by rw [List.getElem?_set_ne (Ne.symm hli)]; exact V7 hy (cl l y hy) ((v₃ rfl) _ _ ((v₂ rfl) _ _ ((v₁ rfl) _ _ hv)))), rv⟩
theorem MI.no {C Sp : Addr → Prop} {hc : Heap} {a0 a1 a2 : Addr} {A B : List D} {test : Expr} {b : List Stmt} {p : Pos} {t : AEnv → Res Bool} {ρ' : AEnv} {s : Shared} {Q : Flow → Shared → Prop} {E : Value → Shared → Prop} (ht : JI G k sc test t) (ok : CxOk G cx sc k) (q : MI G cx sc ρ i x C hc Sp a0 a1 a2 s.heap) (pa : PairAt cx C Sp a0 a1 a2 A B s.heap) (ha : Yc ρ = true) (hx : (Qg sc)[i]? = some x)
  (et : t (ρ.set i (some (.sh (.list [.list A, .list B])))) = .ok false ρ') (fin : ∀ h' tk, MI G cx sc ρ i x C hc Sp a0 a1 a2 h' → PairAt cx C Sp a0 a1 a2 A B h' → Q .next { s with heap := h', toks := tk }) : wpAny G.M cx.A (exec (.If test b [] p) cx.env) Q E s := by
 rw [exec_If]
 refine wpAny_bind (wpAny_standAt (wpAny_bind (ht cx ok _ Sp s (q.read ha hx pa.rv) _ _ ?_)))
 rw [et]
 intro b' h₁ t₁ S₁ r₁ jb x₁ v₁
 subst jb
 exact wpAny_execs_nil (env := cx.env) (fin h₁ t₁ (q.step r₁ x₁ (v₁ rfl)) (pa.step q.s1 q.s2 x₁))
end
end Mine
end

section
set_option Elab.async false
set_option maxRecDepth 100000
namespace Mine
open PySem PyProof.Rows
inductive PairOk (i : Nat) (f1 f2 : AEnv → Res T) (t1 t2 : AEnv → Res Bool) (ρ : AEnv) : Prop
 | mk (m1 m2 : Bool) (A B : List D) (ρ₁ ρ₂ : AEnv) (ha : Yc ρ = true) (h1 : f1 ρ = .ok (.ow m1 (.list A)) ρ) (h2 : f2 ρ = .ok (.ow m2 (.list B)) ρ) (lA : A.length ≤ 1000000) (lB : B.length ≤ 1000000) (e1 : t1 (ρ.set i (some (.sh (.list [.list A, .list B])))) = .ok false ρ₁) (e2 : t2 (ρ.set i (some (.sh (.list [.list A, .list B])))) = .ok false ρ₂)
open Classical in
noncomputable def VH (i : Nat) (f1 f2 : AEnv → Res T) (t1 t2 : AEnv → Res Bool) : AEnv → Res Fl := fun ρ => if PairOk i f1 f2 t1 t2 ρ then .ok .next (ρ.set i none) else .stuck
theorem Df {i : Nat} {f1 f2 : AEnv → Res T} {t1 t2 : AEnv → Res Bool} {ρ : AEnv} (h : PairOk i f1 f2 t1 t2 ρ) : VH i f1 f2 t1 t2 ρ = .ok .next (ρ.set i none) := if_pos h
inductive PairMOk (i j : Nat) (f1 f2 fm : AEnv → Res T) (t1 : AEnv → Res Bool) (o : D) (ρ : AEnv) : Prop
 | mk (m1 m2 : Bool) (A B : List D) (C : Addr) (ns : List Str) (es : List D) (ρ₁ : AEnv) (ha : Yc ρ = true) (h1 : f1 ρ = .ok (.ow m1 (.list A)) ρ) (h2 : f2 ρ = .ok (.ow m2 (.list B)) ρ) (lA : A.length ≤ 1000000) (lB : B.length ≤ 1000000) (ho : o = .obj C ns es) (hf : es.all EO = true)
  (hm : fm (ρ.set i (some (.sh (.list [.list A, .list B])))) = .ok (.sh o) (ρ.set i (some (.sh (.list [.list A, .list B]))))) (e1 : t1 ((ρ.set j (some (.sh o))).set i (some (.sh (.list [.list A, .list B])))) = .ok false ρ₁)
open Classical in
noncomputable def J3 (i j : Nat) (f1 f2 fm : AEnv → Res T) (t1 : AEnv → Res Bool) : AEnv → Res Fl := fun ρ => if h : ∃ o, PairMOk i j f1 f2 fm t1 o ρ then .ok .next ((ρ.set j (some (.sh (Classical.choose h)))).set i none) else .stuck
theorem BI {i j : Nat} {f1 f2 fm : AEnv → Res T} {t1 : AEnv → Res Bool} {ρ : AEnv} {o : D} (h : PairMOk i j f1 f2 fm t1 o ρ) : J3 i j f1 f2 fm t1 ρ = .ok .next ((ρ.set j (some (.sh o))).set i none) := by
 have hh : ∃ o, PairMOk i j f1 f2 fm t1 o ρ := ⟨o, h⟩
 have e : Classical.choose hh = o := by
  have := Classical.choose_spec hh
  generalize Classical.choose hh = o' at this
  obtain ⟨m1, m2, A, B, C, ns, es, ρ₁, _, a1, a2, _, _, _, _, am, _⟩ := h
  obtain ⟨m1', m2', A', B', C', ns', es', ρ₁', _, b1, b2, _, _, _, _, bm, _⟩ := this
  rw [a1] at b1; rw [a2] at b2
  cases b1; cases b2
  rw [am] at bm
  cases bm; rfl
 unfold J3
 rw [dif_pos hh, e]
section
variable {G : Gd} {k : Nat} {sc : Scope} {i j : Nat} {x y : Str}
theorem Ck {e1 e2 test1 test2 : Expr} {f1 f2 : AEnv → Res T} {t1 t2 : AEnv → Res Bool} {b1 b2 : List Stmt} {st4 st5 : Stmt} {xp lp pos p1 p2 : Pos} (hq : G.quiet = true) (hcl : (Qg sc).all (fun x => !Xn x) = true) (he1 : Sim G k sc e1 f1) (he2 : Sim G k sc e2 f2) (u1 : QO e1 = true) (u2 : QO e2 = true) (hx : (Qg sc)[i]? = some x) (hlx : sc.names.lookup x = some .local ∨ sc.names.lookup x = some .cell)
  (hsw : ∀ env : Env, env.scope = sc → swapsWith (.List [e1, e2] lp) (some (.Name x xp)) pos.line env = pure false) (ht1 : JI G k sc test1 t1) (ht2 : JI G k sc test2 t2) (h4 : Ux G k sc i x st4 true) (h5 : Ux G k sc i x st5 false) :
  Dn G k sc [.Assign [.Name x xp] (.List [e1, e2] lp) pos, .If test1 b1 [] p1, .If test2 b2 [] p2, st4, st5] (VH i f1 f2 t1 t2) := by
 intro cx ok fn ρ S s r rest Q E out
 by_cases hP : PairOk i f1 f2 t1 t2 ρ
 rotate_left
 ·unfold VH at out; rw [if_neg hP] at out; exact out.elim
 rw [Df hP] at out
 obtain ⟨m1, m2, A, B, ρ₁, ρ₂, ha, hf1, hf2, lA, lB, et1, et2⟩ := hP
 have cl : ∀ (l : Nat) (w : Str), (Qg sc)[l]? = some w → Xn w = false := fun l w hw => by
  have := List.all_eq_true.mp hcl w (List.mem_of_getElem? hw)
  simpa using this
 have hh := ok.hd hq
 show wpAny G.M cx.A (execs (_ :: _ :: _ :: st4 :: st5 :: rest) cx.env) Q E s
 rw [execs_cons]
 refine wpAny_bind (C6 he1 he2 u1 u2 hx hlx cl hsw ok fn r hf1 hf2 lA lB fun h₁ k₁ Sp a0 a1 a2 q₁ pa₁ => ?_)
 show wpAny G.M cx.A (execs _ cx.env) Q E _
 rw [execs_cons]
 refine wpAny_bind (q₁.no (s := { s with heap := h₁, toks := k₁ }) ht1 ok pa₁ ha hx et1 fun h₂ k₂ q₂ pa₂ => ?_)
 show wpAny G.M cx.A (execs _ cx.env) Q E _
 rw [execs_cons]
 refine wpAny_bind (q₂.no (s := { s with heap := h₂, toks := k₂ }) ht2 ok pa₂ ha hx et2 fun h₃ k₃ q₃ pa₃ => ?_)
 show wpAny G.M cx.A (execs _ cx.env) Q E _
 rw [execs_cons]
 obtain ⟨vt, nt, sz, e1'⟩ := pa₃.e1
 obtain ⟨vu, nu, sz', e2'⟩ := pa₃.e2
 refine wpAny_bind (h4 cx ok fn hh ρ S s.heap Sp a0 a1 a2 { s with heap := h₃, toks := k₃ } vt nt _ E q₃ pa₃.c1 pa₃.k1 pa₃.n1 e1' sz fun h₄ k₄ q₄ kp => ?_)
 show wpAny G.M cx.A (execs _ cx.env) Q E _
 rw [execs_cons]
 refine wpAny_bind (h5 cx ok fn hh ρ S s.heap Sp a0 a1 a2 { s with heap := h₄, toks := k₄ } vu nu _ E q₄ pa₃.c2 pa₃.k2 pa₃.n2 (kp a2 _ (Ne.symm pa₃.n12) q₃.s2 e2' (.seq rfl)) sz' fun h₅ k₅ q₅ _ => ?_)
 exact out h₅ k₅ S (q₅.done ha) q₅.xc
theorem Bz {e1 e2 em test1 : Expr} {f1 f2 fm : AEnv → Res T} {t1 : AEnv → Res Bool} {b1 : List Stmt} {st4 st5 : Stmt} {xp lp pos yp ypos p1 : Pos} (hq : G.quiet = true) (hcl : (Qg sc).all (fun x => !Xn x) = true) (he1 : Sim G k sc e1 f1) (he2 : Sim G k sc e2 f2) (u1 : QO e1 = true) (u2 : QO e2 = true) (hx : (Qg sc)[i]? = some x) (hlx : sc.names.lookup x = some .local ∨ sc.names.lookup x = some .cell)
  (hsw : ∀ env : Env, env.scope = sc → swapsWith (.List [e1, e2] lp) (some (.Name x xp)) pos.line env = pure false) (hem : DO G k sc em fm) (hy : (Qg sc)[j]? = some y) (hly : sc.names.lookup y = some .local ∨ sc.names.lookup y = some .cell) (hij : i ≠ j) (hswy : ∀ env : Env, env.scope = sc → swapsWith em (some (.Name y yp)) ypos.line env = pure false)
  (ht1 : JI G k sc test1 t1) (h4 : Ux G k sc i x st4 true) (h5 : Ux G k sc i x st5 false) :
  Dn G k sc [.Assign [.Name x xp] (.List [e1, e2] lp) pos, .Assign [.Name y yp] em ypos, .If test1 b1 [] p1, st4, st5] (J3 i j f1 f2 fm t1) := by
 intro cx ok fn ρ S s r rest Q E out
 by_cases hP : ∃ o, PairMOk i j f1 f2 fm t1 o ρ
 rotate_left
 ·unfold J3 at out; rw [dif_neg hP] at out; exact out.elim
 obtain ⟨o, hP⟩ := hP
 rw [BI hP] at out
 obtain ⟨m1, m2, A, B, C, ns, es, ρ₁, ha, hf1, hf2, lA, lB, ho, hfl, hm, et1⟩ := hP
 have cl : ∀ (l : Nat) (w : Str), (Qg sc)[l]? = some w → Xn w = false := fun l w hw => by
  have := List.all_eq_true.mp hcl w (List.mem_of_getElem? hw)
  simpa using this
 have hh := ok.hd hq
 show wpAny G.M cx.A (execs (_ :: _ :: _ :: st4 :: st5 :: rest) cx.env) Q E s
 rw [execs_cons]
 refine wpAny_bind (C6 he1 he2 u1 u2 hx hlx cl hsw ok fn r hf1 hf2 lA lB fun h₁ k₁ Sp a0 a1 a2 q₁ pa₁ => ?_)
 show wpAny G.M cx.A (execs _ cx.env) Q E _
 rw [execs_cons]
 refine wpAny_bind ?_
 rw [exec_Assign_Name _ _ _ _ _ (hswy cx.env ok.hsc)]
 refine wpAny_bind (wpAny_standAt (wpAny_bind (hem cx ok _ Sp { s with heap := h₁, toks := k₁ } (q₁.read ha hx pa₁.rv) _ _ ?_)))
 rw [hm]
 intro v h₂ k₂ S₂ r₂ jn x₂ v₂
 obtain ⟨j₂, nw₂⟩ := jn
 have q₂ := q₁.step r₂ x₂ (v₂ rfl)
 have pa₂ := pa₁.step q₁.s1 q₁.s2 x₂
 have ro : RV (fun b => S₂ b ∧ h₁.get? b = none) h₂ v o := by rw [ho]; exact nw₂ C ns es (by rw [ho]) hfl
 refine wpAny_bind (wpAny_standAt (wpAny_bind (J1 (s := { s with heap := h₂, toks := k₂ }) (ok.mono (Nat.zero_le _)) fn r₂.pin hy hly (.inl (cl j y hy)) (t := .sh (.glob v)) (.glob _ fun a e => ro.live a e) _ _ ?_)))
 intro _ h₃ k₃ S₃ r₃ _ x₃ _
 refine wpAny_pure ?_
 have y₃ : Ext S₂ h₂ S₂ h₃ := x₃.shrink fun _ z => z
 have cs : ∀ b, (S b ∨ (S₂ b ∧ h₁.get? b = none)) → S₂ b := fun b z => z.elim (fun z => x₂.sub b (q₁.cs b z)) (·.1)
 have q₃ : MI G cx sc (ρ.set j (some (.sh o))) i x (fun b => S b ∨ (S₂ b ∧ h₁.get? b = none)) h₂ S₂ a0 a1 a2 h₃ := by
  obtain ⟨n, e0⟩ := q₂.e0
  obtain ⟨o1, l1⟩ := q₂.l1
  obtain ⟨o2, l2⟩ := q₂.l2
  refine ⟨r₃.nil x₃.sub, cs, y₃.shrink cs, fun l z d hz hl => ?_, r₃.unpin hx (by rw [List.getElem?_set_ne (Ne.symm hij)]; exact V7 hx (cl i x hx) q₂.vx), x₂.sub _ q₁.s0, x₂.sub _ q₁.s1, x₂.sub _ q₁.s2, ⟨n, y₃.exact e0 (.inl (x₂.sub _ q₁.s0)) (.seq rfl)⟩, y₃.dom _ _ l1, y₃.dom _ _ l2⟩
  by_cases hli : l = i
  ·subst hli; exact (Vv hl).elim
  ·rw [List.getElem?_set_ne (Ne.symm hli)] at hl
   by_cases hlj : l = j
   ·subst hlj
    rw [hy] at hz; cases hz
    obtain rfl := T.sh.inj (VV hl)
    exact ⟨v, r₃.unpin hy (K9 hy), ro.ext (Ext.grow fun _ => .inr)⟩
   ·rw [List.getElem?_set_ne (Ne.symm hlj)] at hl
    obtain ⟨w, hw, rw'⟩ := q₂.hd l z d hz (by rw [List.getElem?_set_ne (Ne.symm hli)]; exact hl)
    exact ⟨w, r₃.unpin hz (by rw [List.getElem?_set_ne (Ne.symm hlj)]; exact V7 hz (cl l z hz) hw), (rw'.ext q₂.xc).ext (Ext.grow fun _ => .inl)⟩
 have pa₃ : PairAt cx (fun b => S b ∨ (S₂ b ∧ h₁.get? b = none)) S₂ a0 a1 a2 A B h₃ := by
  obtain ⟨vt, nt, sz, e1'⟩ := pa₂.e1
  obtain ⟨vu, nu, sz', e2'⟩ := pa₂.e2
  refine ⟨(pa₁.rv.ext x₂).ext y₃, fun z => z.elim pa₁.c1 fun z => ?_, fun z => z.elim pa₁.c2 fun z => ?_, pa₁.k1, pa₁.k2, pa₁.n1, pa₁.n2, pa₁.n12, ⟨vt, nt, sz, y₃.exact e1' (.inl (x₂.sub _ q₁.s1)) (.seq rfl)⟩, ⟨vu, nu, sz', y₃.exact e2' (.inl (x₂.sub _ q₁.s2)) (.seq rfl)⟩⟩
  ·obtain ⟨_, e⟩ := q₁.l1; rw [z.2] at e; cases e
  ·obtain ⟨_, e⟩ := q₁.l2; rw [z.2] at e; cases e
 have ha' : Yc (ρ.set j (some (.sh o))) = true := KH ha _ _
 show wpAny G.M cx.A (execs _ cx.env) Q E _
 rw [execs_cons]
 refine wpAny_bind (q₃.no (s := { s with heap := h₃, toks := k₃ }) ht1 ok pa₃ ha' hx et1 fun h₄ k₄ q₄ pa₄ => ?_)
 show wpAny G.M cx.A (execs _ cx.env) Q E _
 rw [execs_cons]
 obtain ⟨vt, nt, sz, e1'⟩ := pa₄.e1
 obtain ⟨vu, nu, sz', e2'⟩ := pa₄.e2
 refine wpAny_bind (h4 cx ok fn hh _ _ h₂ S₂ a0 a1 a2 { s with heap := h₄, toks := k₄ } vt nt _ E q₄ pa₄.c1 pa₄.k1 pa₄.n1 e1' sz fun h₅ k₅ q₅ kp => ?_)
 show wpAny G.M cx.A (execs _ cx.env) Q E _
 rw [execs_cons]
 refine wpAny_bind (h5 cx ok fn hh _ _ h₂ S₂ a0 a1 a2 { s with heap := h₅, toks := k₅ } vu nu _ E q₅ pa₄.c2 pa₄.k2 pa₄.n2 (kp a2 _ (Ne.symm pa₄.n12) q₄.s2 e2' (.seq rfl)) sz' fun h₆ k₆ q₆ _ => ?_)
 exact out h₆ k₆ _ (q₆.done ha') ((q₂.xc.trans (Ext.grow fun _ => .inl)).trans q₆.xc)
theorem D0 {sts1 rest : List Stmt} {f g : AEnv → Res Fl} (h1 : Dn G k sc sts1 f) (h2 : Yt G k sc rest g) (hn : ∀ ρ, f ρ = .stuck ∨ ∃ ρ', f ρ = .ok .next ρ') : Yt G k sc (sts1 ++ rest) (Qr f g) := by
 intro cx ok fn ρ S s r Q E out
 refine h1 cx ok fn ρ S s r rest Q E ?_
 unfold Qr at out
 rcases hn ρ with hf | ⟨ρ', hf⟩
 ·rw [hf] at out; exact out.elim
 ·rw [hf] at out ⊢
  intro h₁ t₁ S₁ r₁ x₁
  refine h2 cx ok fn ρ' S₁ { s with heap := h₁, toks := t₁ } r₁ Q E ?_
  have out : Out G cx sc false S s (fun S' h' a b => FlJ cx S' h' a b) Q E (g ρ') := out
  exact out.lift x₁ fun z => by cases z
end
end Mine
end

section
set_option Elab.async false
set_option maxRecDepth 100000
namespace Mine
open PySem PyProof.Rows
theorem Bt (i j : Nat) (f1 f2 fm : AEnv → Res T) (t1 : AEnv → Res Bool) (ρ : AEnv) : J3 i j f1 f2 fm t1 ρ = .stuck ∨ ∃ ρ', J3 i j f1 f2 fm t1 ρ = .ok .next ρ' := by
 unfold J3
 by_cases h : ∃ o, PairMOk i j f1 f2 fm t1 o ρ
 ·rw [dif_pos h]; exact .inr ⟨_, rfl⟩
 ·rw [dif_neg h]; exact .inl rfl
section
variable {G : Gd} {k : Nat} {sc : Scope} {x y : Str} {p pos : Pos} {args : List Expr}
theorem Hl (g : Gr G) (C f : Addr) {ns : List Str} {k' : Nat} {I : Addr → List D → IOut} {fa : AEnv → Res (List Bv)} (hI : UE G k' (.ref f) C ns I) (ha : YS G k sc args fa) (hk : k' + 1 ≤ k := by decide) (hu : args.all QO = true := by kernel_rfl)
  (e : W.nsIn G.K mainGlobals x = some (some (.ref C)) := by kernel_rfl) (ho : (G.K.lookup C).isSome = true := by kernel_rfl) (hx : sc.names.lookup x = some .globalImplicit := by kernel_rfl) (hd : (x == ("__debug__" : Str)) = false := by kernel_rfl)
  (hpl : ∀ env, ((backTo pos (starEach args env)).any (·.1) || ([] : List (Option Str × Sem Value)).any (·.1.isNone)) = false := by intro _; rfl) (hkp : W.keepIn G.K (.ref C) = true := by kernel_rfl) (hm : W.makesIn G.K C = true := by kernel_rfl) (hi : W.findIn G.K (.ref C) "__init__" = some (some (.ref f)) := by kernel_rfl) (hf : W.typeIn G.K (.ref f) = some (.type "function") := by kernel_rfl) :
  DO G k sc (.Call (.Name x p) args [] pos) (Wh C ns I fa) := Vt g.ok (gF g C e ho hx hd) hI hk ha hu hpl hkp hm hi hf
theorem cO (g : Gr G) (a : Addr) (i : Nat) {k' : Nat} {F : Addr → List D → Option (D × D)} {fa : AEnv → Res (List Bv)} (hF : VC G k' (.ref a) F) (ha : YS G k sc args fa) (hk : k' ≤ k := by decide) (hf : JY G.K a = true := by kernel_rfl) (e : W.nsIn G.K mainGlobals x = some (some (.ref a)) := by kernel_rfl) (ho : (G.K.lookup a).isSome = true := by kernel_rfl) (hx : sc.names.lookup x = some .globalImplicit := by kernel_rfl) (hd : (x == ("__debug__" : Str)) = false := by kernel_rfl) (hu : args.all QO = true := by kernel_rfl) :
  Sim G k sc (.Call (.Name x p) args [] pos) (Uo i F fa) := by
 obtain ⟨fo, h1, h2⟩ := VI g hf
 exact DU (gF g a e ho hx hd) h1 h2 hF hk ha hu
theorem tnC {xq cp sp ap ap2 ep : Pos} {ck : Nat} {c : Int} {fst : Bool} (i : Nat) (hc : c = cond fst 0 1 := by rfl) (hx : (Qg sc)[i]? = some x := by kernel_rfl) (hdx : (x == ("__debug__" : Str)) = false := by kernel_rfl) (hnx : (x == ("__classdict__" : Str)) = false := by kernel_rfl)
  (hswe : ∀ env : Env, swapsWith (.Call (.Attribute (.Subscript (.Name x xq) (.Constant (.int c) ck cp) sp) "clear" ap) [] [] ap2) none ep.line env = pure false := by intro _; rfl) (hline : (ap.endLine == ap2.line) = true := by rfl) :
  Ux G k sc i x (.Expr (.Call (.Attribute (.Subscript (.Name x xq) (.Constant (.int c) ck cp) sp) "clear" ap) [] [] ap2) ep) fst := B1 hc hx (sub (Ko hx hdx hnx) (Qf.of Qi)) hswe hline
theorem tnA {xq cp sp ap ap2 ep : Pos} {ck : Nat} {c : Int} {fst : Bool} {ea : Expr} {fa : AEnv → Res T} {da : D} (i : Nat) (hea : Sim G k sc ea fa) (hfa : ∀ ρ, fa ρ = .ok (.sh da) ρ := by intro _; rfl) (hc : c = cond fst 0 1 := by rfl) (hx : (Qg sc)[i]? = some x := by kernel_rfl) (hdx : (x == ("__debug__" : Str)) = false := by kernel_rfl) (hnx : (x == ("__classdict__" : Str)) = false := by kernel_rfl)
  (hswe : ∀ env : Env, swapsWith (.Call (.Attribute (.Subscript (.Name x xq) (.Constant (.int c) ck cp) sp) "append" ap) [ea] [] ap2) none ep.line env = pure false := by intro _; rfl) (hua : ∀ env, backTo ap2 (starEach [ea] env) = [(false, eval ea env)] := by intro _; rfl) (hline : (ap.endLine == ap2.line) = true := by rfl) :
  Ux G k sc i x (.Expr (.Call (.Attribute (.Subscript (.Name x xq) (.Constant (.int c) ck cp) sp) "append" ap) [ea] [] ap2) ep) fst := VS hc hx hea hfa (sub (Ko hx hdx hnx) (Qf.of Qi)) hswe hua hline
theorem spP {e1 e2 test1 test2 : Expr} {f1 f2 : AEnv → Res T} {t1 t2 : AEnv → Res Bool} {b1 b2 sts rest : List Stmt} {st4 st5 : Stmt} {xp lp p1 p2 : Pos} {fr : AEnv → Res Fl} (i : Nat) (he1 : Sim G k sc e1 f1) (he2 : Sim G k sc e2 f2) (ht1 : JI G k sc test1 t1) (ht2 : JI G k sc test2 t2) (h4 : Ux G k sc i x st4 true) (h5 : Ux G k sc i x st5 false) (hr : SPre G k sc sts rest fr)
  (hq : G.quiet = true := by rfl) (hcl : (Qg sc).all (fun x => !Xn x) = true := by kernel_rfl) (u : [e1, e2].all QO = true := by kernel_rfl) (hx : (Qg sc)[i]? = some x := by kernel_rfl) (hk : (sc.names.lookup x == some .local || sc.names.lookup x == some .cell) = true := by kernel_rfl) (hsw : ∀ env : Env, swapsWith (.List [e1, e2] lp) (some (.Name x xp)) pos.line env = pure false := by intro _; rfl) :
  SPre G k sc sts (.Assign [.Name x xp] (.List [e1, e2] lp) pos :: .If test1 b1 [] p1 :: .If test2 b2 [] p2 :: st4 :: st5 :: rest) (Qr (VH i f1 f2 t1 t2) fr) :=
 .blk (sts1 := [_, _, _, _, _]) (Ck hq hcl he1 he2 (List.all_eq_true.mp u _ (.head _)) (List.all_eq_true.mp u _ (.tail _ (.head _))) hx (by simpa using hk) (fun env _ => hsw env) ht1 ht2 h4 h5) hr
theorem ssM {e1 e2 em test1 : Expr} {f1 f2 fm : AEnv → Res T} {t1 : AEnv → Res Bool} {b1 rest : List Stmt} {st4 st5 : Stmt} {xp lp yp ypos p1 : Pos} {fr : AEnv → Res Fl} (i j : Nat) (he1 : Sim G k sc e1 f1) (he2 : Sim G k sc e2 f2) (hem : DO G k sc em fm) (ht1 : JI G k sc test1 t1) (h4 : Ux G k sc i x st4 true) (h5 : Ux G k sc i x st5 false) (hr : Yt G k sc rest fr)
  (hq : G.quiet = true := by rfl) (hcl : (Qg sc).all (fun x => !Xn x) = true := by kernel_rfl) (u : [e1, e2].all QO = true := by kernel_rfl) (hx : (Qg sc)[i]? = some x := by kernel_rfl) (hy : (Qg sc)[j]? = some y := by kernel_rfl) (hij : i ≠ j := by decide) (hk : ([x, y].all fun x => sc.names.lookup x == some .local || sc.names.lookup x == some .cell) = true := by kernel_rfl)
  (hsw : ∀ env : Env, swapsWith (.List [e1, e2] lp) (some (.Name x xp)) pos.line env = pure false := by intro _; rfl) (hswy : ∀ env : Env, swapsWith em (some (.Name y yp)) ypos.line env = pure false := by intro _; rfl) :
  Yt G k sc (.Assign [.Name x xp] (.List [e1, e2] lp) pos :: .Assign [.Name y yp] em ypos :: .If test1 b1 [] p1 :: st4 :: st5 :: rest) (Qr (J3 i j f1 f2 fm t1) fr) := by
 have hl' : ∀ z ∈ [x, y], sc.names.lookup z = some .local ∨ sc.names.lookup z = some .cell := fun z hz => by simpa using List.all_eq_true.mp hk z hz
 exact D0 (sts1 := [_, _, _, _, _]) (Bz hq hcl he1 he2 (List.all_eq_true.mp u _ (.head _)) (List.all_eq_true.mp u _ (.tail _ (.head _))) hx (hl' _ (.head _)) (fun env _ => hsw env) hem hy (hl' _ (.tail _ (.head _))) hij (fun env _ => hswy env) ht1 h4 h5) hr (Bt i j f1 f2 fm t1)
theorem fnO (g : Gr G) (a : Addr) (n : Nat) (is : List Nat) (j : Nat) (x : Str) {pre f : AEnv → Res Fl} {fe : AEnv → Res T} {sts : List Stmt} {e : Expr} {p apos pos epos : Pos} (h : SPre G k (QZ G.K a).scope (.Expr (.Call (.Attribute (.Name x p) "append" apos) [e] [] pos) epos :: sts) (Z3 (QZ G.K a)) pre) (he : Sim G k (QZ G.K a).scope e fe) (hr : Yt G k (QZ G.K a).scope sts f)
  (hbind : ∀ vs : List Value, vs.length = (Xe (QZ G.K a)).length → bindArgs (QZ G.K a) ⟨vs, []⟩ = pure ((Xe (QZ G.K a)).zip vs)) (hn : (Qg (QZ G.K a).scope).length = n := by kernel_rfl) (hi : Yv (Qg (QZ G.K a).scope) (Xe (QZ G.K a)) = is := by kernel_rfl) (hx : (Qg (QZ G.K a).scope)[j]? = some x := by kernel_rfl)
  (hdb : (x == ("__debug__" : Str)) = false := by kernel_rfl) (hnc : (x == ("__classdict__" : Str)) = false := by kernel_rfl) (hu : ∀ env, backTo pos (starEach [e] env) = [(false, eval e env)] := by intro _; rfl) (hline : (apos.endLine == pos.line) = true := by rfl) (hsw : ∀ env : Env, swapsWith (.Call (.Attribute (.Name x p) "append" apos) [e] [] pos) none epos.line env = pure false := by intro _; rfl)
  (hf : JY G.K a = true := by kernel_rfl) (hc : W.codeIn G.K (QZ G.K a).code (QZ G.K a).qualname = true := by kernel_rfl) (hpl : JM (QZ G.K a) = true := by kernel_rfl) :
  VC G (k + 1) (.ref a) (Ec n is j pre fe f) := Gv g a n is j x h he hr hbind hn hi hx hdb hnc hu hline hsw hf hc hpl
end
end Mine
end

section
set_option Elab.async false
set_option maxRecDepth 100000
namespace Mine
open PySem PySem.W PyProof.Rows
theorem Wi {R : WRecords} : ∀ {xs : List WData}, WShape.hasItems R xs .int = true → ∃ ns : List Int, xs = ns.map .int
 | [], _ => ⟨[], rfl⟩
 | x :: xs, h => by
  rw [WShape.hasItems, Bool.and_eq_true_iff] at h
  obtain ⟨ns, rfl⟩ := Wi h.2
  cases x with
  | int i => exact ⟨i :: ns, rfl⟩
  | _ => exact Bool.noConfusion (show false = true from h.1)
theorem EJ {l : OpenLaw} {args : List WData} {n : Nat} (hm : l.most = some n) (hb : l.bound = none) (h : l.row.toRowW.claim.pre args = true) : ∃ ns : List Int, args = [.list (ns.map .int)] ∧ ns.length ≤ n := by
 obtain ⟨h1, h2⟩ := pre_splitW h
 have e1 : l.row.toRowW.args = [.list .int] := rfl
 rw [e1] at h1
 obtain ⟨d, r, rfl, hd, hr⟩ := hasAllW_cons h1
 have hr0 : r = [] := by
  cases r with
  | nil => rfl
  | cons a b => exact Bool.noConfusion (show false = true from hr)
 subst hr0
 have hlist : ∃ xs, d = .list xs ∧ WShape.hasItems l.row.toRowW.records xs .int = true := by
  cases d with
  | list xs =>
   have h' : (WShape.hasItems l.row.toRowW.records xs .int || false) = true := hd
   rw [Bool.or_false] at h'
   exact ⟨xs, rfl, h'⟩
  | _ => exact Bool.noConfusion (show false = true from hd)
 obtain ⟨xs, rfl, hx⟩ := hlist
 obtain ⟨ns, rfl⟩ := Wi hx
 refine ⟨ns, rfl, ?_⟩
 have e2 : l.row.toRowW.pre = .and (.not (.lt (.lit (.int n)) (.len (.arg 0)))) (.lit (.bool true)) := by
  show l.pre = _
  unfold OpenLaw.pre
  rw [hm, hb]
 rw [e2] at h2
 have h3 := (holds_andW h2).1
 by_cases hlt : (n : Int) < (ns.map WData.int).length
 ·exfalso
  have key : WTm.holds l.row.toRowW.records (.not (.lt (.lit (.int n)) (.len (.arg 0)))) { args := [.list (ns.map .int)] } = (match (some (WData.bool (!(decide ((n : Int) < (ns.map WData.int).length)))) : Option WData) with | some (.bool true) => true | _ => false) := rfl
  rw [decide_eq_true hlt] at key
  exact Bool.noConfusion (key.symm.trans h3)
 ·rw [List.length_map] at hlt; (simpa using hlt)
theorem Cn {R : WRecords} {cl : Str → Option Addr} {S : Addr → Prop} {h : Heap} {ns : List Int} : ∀ {vs : List Value} {as : List Addr}, ReadsAllW R cl h vs (ns.map .int) as → RVs S h vs (ns.map .int) ∧ as = [] := by
 induction ns with
 | nil => intro vs as r; cases r; exact ⟨.nil, rfl⟩
 | cons n ns ih =>
  intro vs as r
  cases r with
  | cons r1 r2 =>
   obtain ⟨q, rfl⟩ := ih r2
   cases r1
   exact ⟨.cons (.int _ _) q, rfl⟩
theorem FQ {l : OpenLaw} {w : World} {s₁ : Shared} {mg mb : Str → Option Value} {K : Frag} {a : Addr} {k : Nat} {F : List D → FOut} {args : List WData} {vals : List Value} {as : List Addr} {R : WRecords} {cl cl' : Str → Option Addr} {mean : ExcName → Option Value} (hF : Yd ⟨l.row.toRowW.prog, w, s₁.heap, mg, mb, K, true⟩ k (.ref a) F) (hk : k ≤ 500) (hg : s₁.gens = #[])
  {n : Nat} (hm : l.most = some n) (hb : l.bound = none) (hpre : l.row.toRowW.claim.pre args = true) (hrd : ReadsAllW R cl s₁.heap vals args as) (hwl : WellAll w.params s₁.heap vals args) (hlaw : ∀ ns : List Int, ns.length ≤ n → F [.list (ns.map .int)] = .ok (.sh (.bool true))) :
  wpAny (model l.row.toRowW.prog w) callerA (call (.ref a) vals) (fun v s' => GoodWG l.row.toRowW.claim cl' mean args s₁ (.ok (.ret v)) s') (fun e s' => GoodWG l.row.toRowW.claim cl' mean args s₁ (.error e) s') s₁ := by
 obtain ⟨ns, rfl, hn⟩ := EJ hm hb hpre
 cases hrd with
 | cons r1 r2 =>
  cases r2
  obtain ⟨b, vs, as', rfl, il, ri, _⟩ := readsW_list_inv r1
  obtain ⟨o, h1, h2, m, h3⟩ := il
  have hdn : o.dict = none ∧ o.slots = #[] := by
   cases hwl with
   | cons q _ => cases q with | list e _ => rw [h1] at e; cases e; exact ⟨rfl, rfl⟩
  obtain ⟨q, _⟩ := Cn (S := fun x => x = b) ri
  refine wpAny_call ?_
  refine hF callerA [] (fun x => x = b) s₁ [.ref b] [.list (ns.map .int)] ?_ rfl (fun _ => rfl) (fun v e => by cases e) (fun env he => by cases he) (fun _ _ e => e) (fun x hx => ⟨o, by rw [hx]; exact h1⟩) (.cons (.list rfl h1 ⟨h2, hdn⟩ h3 q) .nil) _ ?_
  ·constructor
   ·show 1 + claimMargin + k ≤ 900
    have : claimMargin = 300 := rfl
    exact Nat.le_trans (Nat.add_le_add_left hk _) (by decide)
   ·show 4 + 8 * k ≤ 9000
    lia
  ·rw [hlaw ns hn]
   intro v h' tk S' kp hB _ _ _ ret
   cases ret
   refine ⟨.inl ⟨.bool true, .bool true, [], rfl, fun _ => rfl, .bool true, ?_, fun _ => ⟨.nil, fun _ hx => by cases hx⟩⟩, .of_keep hB, rfl, ?_⟩
   ·show (WShape.has l.row.toRowW.records (.bool true) .bool && WTm.holds l.row.toRowW.records (.eq .res (.lit (.bool true))) { args := [.list (ns.map .int)], res := some (.bool true), after := [.list (ns.map .int)] }) = true
    have e1 : same (WData.bool true) (WData.bool true) = true := by first | rfl | exact same_self _ | decide | simp [same]
    have e2 : WTm.holds l.row.toRowW.records (.eq .res (.lit (.bool true))) { args := [.list (ns.map .int)], res := some (.bool true), after := [.list (ns.map .int)] } = (match (some (WData.bool (same (WData.bool true) (WData.bool true))) : Option WData) with | some (.bool true) => true | _ => false) := rfl
    rw [e1] at e2
    rw [e2]; rfl
   ·show AllBare s₁.gens
    rw [hg]
    exact .of_eq rfl
end Mine
end

section
set_option Elab.async false
set_option maxRecDepth 100000
namespace Mine
open PySem
theorem WI {b : D → AEnv → Option AEnv} {t : AEnv → Res Bool} {f : AEnv → Res T} {ρ₀ : AEnv} {q : D → Bool} {g : D → D} : ∀ (ds acc : List D), (∀ d ∈ ds, ∃ ρ₁ ρ₂, b d ρ₀ = some ρ₁ ∧ t ρ₁ = .ok (q d) ρ₂ ∧ (q d = true → ∃ v ρ₃, f ρ₂ = .ok v ρ₃ ∧ v.val = g d)) → acc.length + ds.length ≤ 1000000 → YG b t f ρ₀ ds acc = some (acc ++ (ds.filter q).map g) := by
 intro ds
 induction ds with
 | nil => intro acc _ _; exact congrArg some (List.append_nil acc).symm
 | cons d ds ih =>
  intro acc h hl
  obtain ⟨ρ₁, ρ₂, h1, h2, h3⟩ := h d (.head _)
  rw [List.length_cons] at hl
  have ih := fun acc' => ih acc' fun e he => h e (.tail _ he)
  conv => lhs; whnf
  rw [h1]
  conv => lhs; whnf
  rw [h2]
  cases hq : q d with
  | false =>
   rw [List.filter_cons_of_neg (by rw [hq]; decide)]
   exact ih acc (by exact omL hl)
  | true =>
   obtain ⟨v, ρ₃, h4, h5⟩ := h3 hq
   rw [List.filter_cons_of_pos hq, List.map_cons, ← h5]
   conv => lhs; whnf
   rw [h4]
   refine (if_pos (by exact omP hl)).trans ((ih _ (by rw [List.length_append]; exact Nat.le_trans (Nat.le_of_eq (Nat.add_assoc _ 1 _)) (by rw [Nat.add_comm 1]; exact hl))).trans ?_)
   rw [List.append_assoc]; rfl
theorem KD {b : D → AEnv → Option AEnv} {f : AEnv → Res T} {ρ₀ : AEnv} {g : D → D} (ds : List D) (h : ∀ d ∈ ds, ∃ ρ₁ v ρ₃, b d ρ₀ = some ρ₁ ∧ f ρ₁ = .ok v ρ₃ ∧ v.val = g d) (hl : ds.length ≤ 1000000) : YG b Bc f ρ₀ ds [] = some (ds.map g) := by
 have := WI (b := b) (t := Bc) (f := f) (ρ₀ := ρ₀) (q := fun _ => true) (g := g) ds [] (fun d hd => by
  obtain ⟨ρ₁, v, ρ₃, h1, h2, h3⟩ := h d hd
  exact ⟨ρ₁, ρ₁, h1, rfl, fun _ => ⟨v, ρ₃, h2, h3⟩⟩) (by simpa using hl)
 rw [this, List.nil_append, List.filter_eq_self.mpr fun _ _ => rfl]
noncomputable def iL (ns : List Int) : List D := ns.map .int
noncomputable def nL (ns : List Nat) : List D := ns.map fun (n : Nat) => D.int n
noncomputable def isW : D → Bool
 | .int _ => true
 | _ => false
noncomputable def Ka : D → Bool
 | .range .. => false
 | .exc _ => false
 | .glob _ => false
 | .dict .. => false
 | .obj .. => false
 | _ => true
theorem DZ (ns : List Int) : Ug (iL ns) = some ns := by
 induction ns with
 | nil => rfl
 | cons n ns ih => exact congrArg (Option.map (n :: ·)) ih
theorem BL (bs : List Bool) : U6 (bs.map .bool) = some bs := by
 induction bs with
 | nil => rfl
 | cons b bs ih => exact congrArg (Option.map (b :: ·)) ih
theorem Oo {d : D} {ds : List D} {p : PyData} {ps : List PyData} (h1 : Kt d = some p) (h2 : Yu ds = some ps) : Yu (d :: ds) = some (p :: ps) := by
 conv => lhs; whnf
 rw [h1, h2]
theorem OJ (ns : List Int) : Yu (iL ns) = some (ns.map .int) := by
 induction ns with
 | nil => rfl
 | cons n ns ih => exact Oo rfl ih
theorem GS {ds : List D} {ps : List PyData} (h : Yu ds = some ps) : Kt (.tup ds) = some (.tuple ps) := congrArg (Option.map PyData.tuple) h
theorem UK {ds : List D} {ps : List PyData} (h : Yu ds = some ps) : Kt (.list ds) = some (.list ps) := congrArg (Option.map PyData.list) h
theorem KN (a : List Int) : ∀ b : List Int, PyData.eqvAll (a.map .int) (b.map .int) = decide (a = b) := by
 induction a with
 | nil =>
  intro b
  cases b with
  | nil => rfl
  | cons y b => rfl
 | cons x a ih =>
  intro b
  cases b with
  | nil => rfl
  | cons y b =>
   show ((x == y) && PyData.eqvAll (a.map .int) (b.map .int)) = _
   rw [ih]
   by_cases h : x = y
   ·subst h
    by_cases h2 : a = b
    ·subst h2; rw [decide_eq_true rfl, decide_eq_true rfl, Bool.and_true]; exact beq_self_eq_true x
    ·rw [decide_eq_false h2, decide_eq_false (fun q => h2 (List.cons.inj q).2), Bool.and_false]
   ·rw [decide_eq_false (fun q => h (List.cons.inj q).1), beq_eq_false_iff_ne.mpr h, Bool.false_and]
theorem KK (a : List Int) : PyData.canLayAll0 (a.map .int) = true := by
 induction a with
 | nil => rfl
 | cons x a ih => exact ih
theorem Wt (a : List Int) : PyData.depthAll (a.map .int) ≤ 1 := by
 induction a with
 | nil => exact Nat.zero_le _
 | cons x a ih => exact Nat.max_le.mpr ⟨Nat.zero_le _, ih⟩
theorem KR (a : List Int) : SeqAt.shaped (.list (a.map .int)) = true :=
 Bool.and_eq_true_iff.mpr ⟨KK a, decide_eq_true (Nat.le_trans (Nat.add_le_add_right (Wt a) 1) (by decide))⟩
theorem Ci (a : List Int) : SeqAt.shaped (.tuple (a.map .int)) = true :=
 Bool.and_eq_true_iff.mpr ⟨KK a, decide_eq_true (Nat.le_trans (Nat.add_le_add_right (Wt a) 1) (by decide))⟩
noncomputable def eqB (a b : List Int) : Bool := decide (a = b)
theorem Eu {a b : List Int} : eqB a b = true ↔ a = b := decide_eq_true_iff
theorem D9 {a b : List Int} : eqB a b = false ↔ a ≠ b := decide_eq_false_iff_not
noncomputable def eqZ (a b : Int) : Bool := decide (a = b)
theorem OM {a b : Int} : eqZ a b = true ↔ a = b := decide_eq_true_iff
theorem Ku {a b : Int} : eqZ a b = false ↔ a ≠ b := decide_eq_false_iff_not
theorem KG {x y : D} {p q : PyData} {b : Bool} (h1 : Kt x = some p) (h2 : Kt y = some q) (h3 : SeqAt.shaped p = true) (h4 : SeqAt.shaped q = true) (h5 : PyData.eqv p q = b) : eqD x y = some b := by
 conv => lhs; whnf
 rw [h1, h2]
 conv => lhs; whnf
 rw [h3, h4, ← h5]; rfl
theorem OX {x y : D} {b : Bool} (h : eqD x y = some b) : eqI x y = some (.sh (.bool b)) := congrArg (Option.map fun b => T.sh (.bool b)) h
theorem Ks {x y : D} {b : Bool} (h : eqD x y = some b) : neI x y = some (.sh (.bool !b)) := congrArg (Option.map fun b => T.sh (.bool !b)) h
theorem Dv (a b : List Int) : eqD (.list (iL a)) (.list (iL b)) = some (eqB a b) := KG (UK (OJ a)) (UK (OJ b)) (KR a) (KR b) (KN a b)
theorem BT (a b : List Int) : eqI (.list (iL a)) (.list (iL b)) = some (.sh (.bool (eqB a b))) := OX (Dv a b)
theorem FT (a b : Int) : (a == b) = eqZ a b := by
 by_cases h : a = b
 ·rw [OM.mpr h]; exact beq_iff_eq.mpr h
 ·rw [Ku.mpr h]; exact beq_eq_false_iff_ne.mpr h
theorem CV (a b : Int) : eqD (.int a) (.int b) = some (eqZ a b) := KG rfl rfl rfl rfl (FT a b)
theorem Dk (a b : Int) : eqI (.int a) (.int b) = some (.sh (.bool (eqZ a b))) := OX (CV a b)
noncomputable def rng (n : Nat) : List Int := (List.range n).map fun (i : Nat) => (i : Int)
theorem ZY (n : Nat) : (rng n).length = n := by simp [rng]
theorem Uk (n : Nat) : Uq 0 n 1 = iL (rng n) := by
 unfold Uq WG iL rng
 rw [rangeSize_one]
 have : (if (0 : Int) < n then (n : Int) - 0 else 0).toNat = n := by split <;> omega
 rw [this]
 simp
theorem Jf (n : Nat) (h : n ≤ 1000000) : ZF 0 n 1 = true := by
 unfold ZF
 rw [small_one (by exact Int.ofNat_nonneg _) (by exact Int.ofNat_nonneg _) (by exact Int.ofNat_nonneg _) (by exact Int.ofNat_lt.mpr (Nat.lt_of_le_of_lt h (by decide))), rangeSize_one]
 simp only [Bool.true_and, Bool.and_eq_true, decide_eq_true_eq]
 constructor <;> split <;> omega
theorem Ce (ns : List Int) : (UI ns).Perm ns := List.mergeSort_perm ns _
theorem CC (n : Nat) : (rng n).Pairwise (· ≤ ·) := by
 unfold rng
 rw [List.pairwise_map]
 exact (List.pairwise_lt_range (n := n)).imp fun h => by exact Int.ofNat_le.mpr (Nat.le_of_lt h)
theorem Vr {ns : List Int} {n : Nat} : UI ns = rng n ↔ ns.Perm (rng n) := by
 constructor
 ·intro h; rw [← h]; exact (Ce ns).symm
 ·intro h; exact (UD h.symm (CC n)).symm
section
variable {f g : AEnv → Res Fl} {t : AEnv → Res Bool} {e : AEnv → Res T} {ρ ρ₁ : AEnv} {v : T} {C : PySem.Addr} {i : Nat}
end
end Mine
end

section
set_option Elab.async false
set_option maxRecDepth 100000
set_option linter.unusedSimpArgs false
namespace Mine
open PySem
set_option autoImplicit true
set_option relaxedAutoImplicit true
theorem Z4 {α β : Type} {o : Option α} {k : α → Res β} {a : α} (h : o = some a) : ob o k = k a := by subst h; rfl
theorem VU {α β : Type} {r : Res α} {g : α → AEnv → Res β} {a : α} {ρ : AEnv} (h : r = .ok a ρ) : r.bind g = g a ρ := by subst h; rfl
noncomputable def GD (r : Res T) : Res Bv := Qd (fun _ => r) []
theorem Ho (h : T.val t = d) : GD (.ok t ρ) = .ok (.val d) ρ := by subst h; rfl
theorem Hp : GD (.exc C ρ) = .exc C ρ := rfl
noncomputable def G0 (F : D → Option T) (r : Res Bv) : Res T := Wv F (fun _ => r) []
theorem Hq (h : Bv.get ρ a = some x) (h2 : F x = some t) : G0 F (.ok a ρ) = .ok t ρ := by conv => lhs; whnf; rw [h]; whnf; rw [h2]
noncomputable def FL (F : D → D → Option T) (a : Bv) (r : Res Bv) : Res T := Qq F (fun ρ => .ok a ρ) (fun _ => r) []
theorem Hr (h : Bv.get ρ a = some x) (h2 : Bv.get ρ b = some y) (h3 : F x y = some t) : FL F a (.ok b ρ) = .ok t ρ := by conv => lhs; whnf; rw [h, h2]; whnf; rw [h3]
noncomputable def GX (F : D → D → Option T) (g : AEnv → Res Bv) (r : Res Bv) : Res T := Qq F (fun _ => r) g []
theorem Hs (h : g ρ = r) (h2 : FL F a r = rT) : GX F g (.ok a ρ) = rT := by subst h; exact h2
noncomputable def GQ (F : List D → Option T) (r : Res (List Bv)) : Res T := Xc F (fun _ => r) []
theorem Ht (h : X0 ρ bs = some ds) (h2 : F ds = some t) : GQ F (.ok bs ρ) = .ok t ρ := by conv => lhs; whnf; rw [h]; whnf; rw [h2]
noncomputable def Gb (F : List D → FOut) (r : Res (List Bv)) : Res T := QV F (fun _ => r) []
theorem Hu {o : FOut} (h : X0 ρ bs = some ds) (h2 : F ds = o) (h3 : YO bs ρ o = rT) : Gb F (.ok bs ρ) = rT := by
 subst h2; subst h3; conv => lhs; whnf; rw [h]
noncomputable def VR (b : Bv) (r : Res (List Bv)) : Res (List Bv) := Qa (fun ρ => .ok b ρ) (fun _ => r) []
theorem Hv : VR b (.ok bs ρ) = .ok (b :: bs) ρ := rfl
noncomputable def E0 (g : AEnv → Res (List Bv)) (r : Res Bv) : Res (List Bv) := Qa (fun _ => r) g []
theorem Hw (h : g ρ = rL) (h2 : VR b rL = rL') : E0 g (.ok b ρ) = rL' := by subst h; exact h2
noncomputable def Gg (d : D) (r : Res (List D)) : Res (List D) := Qp (fun ρ => .ok (.sh d) ρ) (fun _ => r) []
theorem Hx : Gg d (.ok ds ρ) = .ok (d :: ds) ρ := rfl
noncomputable def Ge (g : AEnv → Res (List D)) (r : Res T) : Res (List D) := Qp (fun _ => r) g []
theorem Hy (h : T.val t = d) (h1 : g ρ = rD) (h2 : Gg d rD = rD') : Ge g (.ok t ρ) = rD' := by subst h; subst h1; exact h2
noncomputable def GW (r : Res (List D)) : Res T := YE (fun _ => r) []
theorem Hz (h : List.length ds ≤ 1000000) : GW (.ok ds ρ) = .ok (.sh (.tup ds)) ρ := if_pos h
noncomputable def GJ (r : Res (List D)) : Res T := XV (fun _ => r) []
theorem HA (h : List.length ds ≤ 1000000) : GJ (.ok ds ρ) = .ok (.ow true (.list ds)) ρ := if_pos h
noncomputable def Eo (r : Res Bv) : Res Bool := Xm (fun _ => r) []
theorem HB (h : Bv.get ρ a = some (.bool c)) : Eo (.ok a ρ) = .ok c ρ := by
 conv => lhs; whnf; rw [h]
 rfl
noncomputable def Gk (r : Res Bool) : Res Bool := Yb (fun _ => r) []
theorem HC : Gk (.ok true ρ) = .ok false ρ := rfl
theorem HD : Gk (.ok false ρ) = .ok true ρ := rfl
noncomputable def Gh (g : AEnv → Res Bool) (r : Res Bool) : Res Bool := KI (fun _ => r) g []
theorem HE (h : g ρ = rB) : Gh g (.ok true ρ) = rB := h
theorem HF : Gh g (.ok false ρ) = .ok false ρ := rfl
noncomputable def orK (g : AEnv → Res Bool) (r : Res Bool) : Res Bool := eOr (fun _ => r) g []
theorem HG : orK g (.ok true ρ) = .ok true ρ := rfl
theorem HH (h : g ρ = rB) : orK g (.ok false ρ) = rB := h
noncomputable def Bj (F : D → D → Option T) (a : Bv) (r : Res Bv) : Res Bool := Q9 F (fun ρ => .ok a ρ) (fun _ => r) []
theorem HI (h : Bv.get ρ a = some x) (h2 : Bv.get ρ b = some y) (h3 : F x y = some (.sh (.bool c))) : Bj F a (.ok b ρ) = .ok c ρ := (Z4 h).trans ((Z4 h2).trans (Z4 h3))
noncomputable def Fc (F : D → D → Option T) (g : AEnv → Res Bv) (r : Res Bv) : Res Bool := Q9 F (fun _ => r) g []
theorem HJ (h : g ρ = r) (h2 : Bj F a r = rB) : Fc F g (.ok a ρ) = rB := by subst h; exact h2
noncomputable def CB (F' : D → D → Option T) (b : Bv) (r : Res Bv) : Res Bool := Bj F' b r
theorem HK (h : Bv.get ρ b = some y) (h2 : Bv.get ρ a = some z) (h3 : F' y z = some (.sh (.bool c))) : CB F' b (.ok a ρ) = .ok c ρ := HI h h2 h3
noncomputable def CE (F' : D → D → Option T) (h : AEnv → Res Bv) (b : Bv) (ρ : AEnv) (c : Bool) : Res Bool := cond c (CB F' b (h ρ)) (.ok false ρ)
theorem HL (h1 : h ρ = r) (h2 : CB F' b r = rB) : CE F' h b ρ true = rB := by subst h1; exact h2
theorem HM : CE F' h b ρ false = .ok false ρ := rfl
noncomputable def Ef (F F' : D → D → Option T) (h : AEnv → Res Bv) (a : Bv) (r : Res Bv) : Res Bool := Y7 F F' (fun ρ => .ok a ρ) (fun _ => r) h []
theorem HN (h1 : Bv.get ρ a = some x) (h2 : Bv.get ρ b = some y) (h3 : F x y = some (.sh (.bool c))) (h4 : CE F' h b ρ c = rB) : Ef F F' h a (.ok b ρ) = rB := by
 subst h4
 conv => lhs; whnf; rw [h1, h2]; whnf; rw [h3]
 cases c <;> rfl
noncomputable def EG (F F' : D → D → Option T) (g h : AEnv → Res Bv) (r : Res Bv) : Res Bool := Y7 F F' (fun _ => r) g h []
theorem HO (h1 : g ρ = r) (h2 : Ef F F' h a r = rB) : EG F F' g h (.ok a ρ) = rB := by subst h1; exact h2
noncomputable def Fg (r : Res T) : Res (List D) := ZB (fun _ => r) []
theorem HP (h : T.val t = d) (h2 : Zt d = some ds) : Fg (.ok t ρ) = .ok ds ρ := by subst h; conv => lhs; whnf; rw [h2]
noncomputable def Ga (r : Res T) : Res (List D) := Bu (fun _ => r) []
theorem HQ (h : T.val t = .list ds) : Ga (.ok t ρ) = .ok (Uv ds) ρ := by conv => lhs; whnf; rw [h]
noncomputable def FS (g : AEnv → Res Fl) (r : Res Fl) : Res Fl := Qr (fun _ => r) g []
theorem HR (h : g ρ = s) : FS g (.ok .next ρ) = s := h
theorem HS : FS g (.ok (.ret t) ρ) = .ok (.ret t) ρ := rfl
theorem HT : FS g (.exc C ρ) = .exc C ρ := rfl
noncomputable def ifK (f g : AEnv → Res Fl) (r : Res Bool) : Res Fl := sIf (fun _ => r) f g []
theorem HU (h : p ρ = s) : ifK p q (.ok true ρ) = s := h
theorem HV (h : q ρ = s) : ifK p q (.ok false ρ) = s := h
noncomputable def GK (r : Res T) : Res Fl := Za (fun _ => r) []
theorem HW : GK (.ok t ρ) = .ok (.ret t) ρ := rfl
noncomputable def EC (r : Res Bv) : Res Fl := Zb (fun _ => r) []
theorem HX : EC (.ok a ρ) = .ok .next ρ := rfl
theorem HY : EC (.exc C ρ) = .exc C ρ := rfl
noncomputable def GC (i : Nat) (r : Res T) : Res Fl := Qy i (fun _ => r) []
theorem HZ (h : List.set ρ i (some t) = ρ') : GC i (.ok t ρ) = .ok .next ρ' := by subst h; rfl
theorem H0 : GC i (.exc C ρ) = .exc C ρ := rfl
noncomputable def GU (b : D → AEnv → Option AEnv) (body : AEnv → Res Fl) (r : Res (List D)) : Res Fl := UY (fun _ => r) b body []
theorem H1 (h : ZT b body ds ρ = s) : GU b body (.ok ds ρ) = s := h
noncomputable def GH (K : W.Frag) (C' : Addr) (i : Nat) (g : AEnv → Res Fl) (r : Res Fl) : Res Fl := DV K C' i (fun _ => r) g []
theorem H2 (h : (W.mroIn K C (.ref C') == some true) = true) (h2 : List.set ρ i (some (.sh (.exc C))) = ρ₁) (h3 : g ρ₁ = .ok fl ρ₂) (h4 : List.set ρ₂ i none = ρ₃) : GH K C' i g (.exc C ρ) = .ok fl ρ₃ := by
 subst h2; subst h4
 have e : GH K C' i g (.exc C ρ) = if (W.mroIn K C (.ref C') == some true) = true then (match g (ρ.set i (some (.sh (.exc C)))) with | .ok fl ρ₂ => .ok fl (ρ₂.set i none) | _ => .stuck) else .stuck := rfl
 rw [e, if_pos h, h3]
noncomputable def F3 (b : D → AEnv → Option AEnv) (body : AEnv → Res Fl) (ds : List D) (r : Res Fl) : Res Fl := r.bind fun fl ρ₂ => match fl with
 | .next => ZT b body ds ρ₂
 | .cont => ZT b body ds ρ₂
 | .brk => .ok .next ρ₂
 | .ret t => .ok (.ret t) ρ₂
theorem H3 (h : ZT b body ds ρ = s) : F3 b body ds (.ok .next ρ) = s := h
theorem H4 : F3 b body ds (.exc C ρ) = .exc C ρ := rfl
section
variable {ρ ρ₁ ρ₂ ρ₃ ρ' : AEnv} {d x y : D} {m : Bool} {i n : Nat} {t t' : T} {b : Bv} {bs : List Bv} {ds ds' : List D} {u : Option T} {l l' : AEnv}
theorem Q3 : (T.sh d).val = d := rfl
theorem Z6 : (T.ow m d).val = d := rfl
theorem G3 : (T.sh d).weak = .sh d := rfl
theorem GN {u0 u1 : Option T} : List.set (u0 :: u1 :: l) 1 v = u0 :: v :: l := rfl
theorem Y5 {u0 u1 u2 : Option T} : List.set (u0 :: u1 :: u2 :: l) 2 v = u0 :: u1 :: v :: l := rfl
theorem UZ {u0 u1 u2 u3 : Option T} : List.set (u0 :: u1 :: u2 :: u3 :: l) 3 v = u0 :: u1 :: u2 :: v :: l := rfl
theorem KC {u0 u1 u2 u3 u4 : Option T} : List.set (u0 :: u1 :: u2 :: u3 :: u4 :: l) 4 v = u0 :: u1 :: u2 :: u3 :: v :: l := rfl
theorem YF {u0 u1 u2 u3 u4 u5 : Option T} : List.set (u0 :: u1 :: u2 :: u3 :: u4 :: u5 :: l) 5 v = u0 :: u1 :: u2 :: u3 :: u4 :: v :: l := rfl
theorem Y2 {u0 u1 u2 u3 u4 u5 u6 : Option T} : List.set (u0 :: u1 :: u2 :: u3 :: u4 :: u5 :: u6 :: l) 6 v = u0 :: u1 :: u2 :: u3 :: u4 :: u5 :: v :: l := rfl
theorem ES {u0 u1 u2 u3 u4 u5 u6 u7 : Option T} : List.set (u0 :: u1 :: u2 :: u3 :: u4 :: u5 :: u6 :: u7 :: l) 7 v = u0 :: u1 :: u2 :: u3 :: u4 :: u5 :: u6 :: v :: l := rfl
theorem FV {u0 u1 u2 u3 u4 u5 u6 u7 u8 : Option T} : List.set (u0 :: u1 :: u2 :: u3 :: u4 :: u5 :: u6 :: u7 :: u8 :: l) 8 v = u0 :: u1 :: u2 :: u3 :: u4 :: u5 :: u6 :: u7 :: v :: l := rfl
theorem DP {u0 u1 u2 u3 u4 u5 u6 u7 u8 u9 : Option T} : List.set (u0 :: u1 :: u2 :: u3 :: u4 :: u5 :: u6 :: u7 :: u8 :: u9 :: l) 9 v = u0 :: u1 :: u2 :: u3 :: u4 :: u5 :: u6 :: u7 :: u8 :: v :: l := rfl
theorem Ey {u0 u1 u2 u3 u4 u5 u6 u7 u8 u9 u10 : Option T} : List.set (u0 :: u1 :: u2 :: u3 :: u4 :: u5 :: u6 :: u7 :: u8 :: u9 :: u10 :: l) 10 v = u0 :: u1 :: u2 :: u3 :: u4 :: u5 :: u6 :: u7 :: u8 :: u9 :: v :: l := rfl
theorem EU {u0 u1 u2 u3 u4 u5 u6 u7 u8 u9 u10 u11 : Option T} : List.set (u0 :: u1 :: u2 :: u3 :: u4 :: u5 :: u6 :: u7 :: u8 :: u9 :: u10 :: u11 :: l) 11 v = u0 :: u1 :: u2 :: u3 :: u4 :: u5 :: u6 :: u7 :: u8 :: u9 :: u10 :: v :: l := rfl
theorem E1 {u0 u1 u2 u3 u4 u5 u6 u7 u8 u9 u10 u11 u12 : Option T} : List.set (u0 :: u1 :: u2 :: u3 :: u4 :: u5 :: u6 :: u7 :: u8 :: u9 :: u10 :: u11 :: u12 :: l) 12 v = u0 :: u1 :: u2 :: u3 :: u4 :: u5 :: u6 :: u7 :: u8 :: u9 :: u10 :: u11 :: v :: l := rfl
theorem E8 {u0 u1 u2 u3 u4 u5 u6 u7 u8 u9 u10 u11 u12 u13 : Option T} : List.set (u0 :: u1 :: u2 :: u3 :: u4 :: u5 :: u6 :: u7 :: u8 :: u9 :: u10 :: u11 :: u12 :: u13 :: l) 13 v = u0 :: u1 :: u2 :: u3 :: u4 :: u5 :: u6 :: u7 :: u8 :: u9 :: u10 :: u11 :: u12 :: v :: l := rfl
theorem Ez {u0 u1 u2 u3 u4 u5 u6 u7 u8 u9 u10 u11 u12 u13 u14 : Option T} : List.set (u0 :: u1 :: u2 :: u3 :: u4 :: u5 :: u6 :: u7 :: u8 :: u9 :: u10 :: u11 :: u12 :: u13 :: u14 :: l) 14 v = u0 :: u1 :: u2 :: u3 :: u4 :: u5 :: u6 :: u7 :: u8 :: u9 :: u10 :: u11 :: u12 :: u13 :: v :: l := rfl
theorem Et {u0 u1 u2 u3 u4 u5 u6 u7 u8 u9 u10 u11 u12 u13 u14 u15 : Option T} : List.set (u0 :: u1 :: u2 :: u3 :: u4 :: u5 :: u6 :: u7 :: u8 :: u9 :: u10 :: u11 :: u12 :: u13 :: u14 :: u15 :: l) 15 v = u0 :: u1 :: u2 :: u3 :: u4 :: u5 :: u6 :: u7 :: u8 :: u9 :: u10 :: u11 :: u12 :: u13 :: u14 :: v :: l := rfl
theorem Ew {u0 u1 u2 u3 u4 u5 u6 u7 u8 u9 u10 u11 u12 u13 u14 u15 u16 : Option T} : List.set (u0 :: u1 :: u2 :: u3 :: u4 :: u5 :: u6 :: u7 :: u8 :: u9 :: u10 :: u11 :: u12 :: u13 :: u14 :: u15 :: u16 :: l) 16 v = u0 :: u1 :: u2 :: u3 :: u4 :: u5 :: u6 :: u7 :: u8 :: u9 :: u10 :: u11 :: u12 :: u13 :: u14 :: u15 :: v :: l := rfl
theorem GE (h : List.set l n v = l') : List.set (u :: l) (n + 1) v = u :: l' := by rw [List.set_cons_succ, h]
theorem QG : Bv.get ρ (.val d) = some d := rfl
theorem XF : (T.sh d).get = some d := rfl
theorem F9 : (T.ow m (.list ds)).get = some (.list ds) := rfl
theorem Gf (h : ρ[i]? = some (some t)) (h2 : t.get = some d) : Bv.get ρ (.var i) = some d := by
 conv => lhs; whnf; rw [h]
 exact h2
theorem Qu : X0 ρ [] = some [] := rfl
theorem Qo (h : b.get ρ = some d) (h2 : X0 ρ bs = some ds) : X0 ρ (b :: bs) = some (d :: ds) := by conv => lhs; whnf; rw [h, h2]
theorem Wq : Uu ρ [] = some [] := rfl
theorem Uj {r : List (Option Nat)} (h : Uu ρ r = some l) : Uu ρ (none :: r) = some (none :: l) := congrArg (Option.map (none :: ·)) h
theorem Dj {r : List (Option Nat)} (h : ρ[i]? = some (some t)) (h2 : t.weak = t') (h3 : Uu ρ r = some l) : Uu ρ (some i :: r) = some (some t' :: l) := by subst h2; conv => lhs; whnf; rw [h]; whnf; rw [h3]
theorem Yg (h : ρ[i]? = some (some (.ow true (.list ds)))) (hl : ds.length ≤ 1000000) : X1 ρ i = some ds := by
 conv => lhs; whnf; rw [h]
 exact if_pos hl
theorem QR (h : bs.all (ZR ρ) = true) : YO bs ρ (.ok t) = .ok t ρ := if_pos h
theorem UH {C : Addr} : YO bs ρ (.exc C) = .exc C ρ := rfl
end
section
variable {ρ ρ₁ ρ₂ ρ₃ ρ' : AEnv} {d x y z : D} {i : Nat} {t : T} {a b : Bv} {bs : List Bv} {ds ds' : List D} {C : Addr} {c : Bool}
variable {f g h : AEnv → Res Bv} {fT gT : AEnv → Res T} {fa : AEnv → Res (List Bv)} {fd : AEnv → Res (List D)} {tb tc : AEnv → Res Bool} {r : Res Bv} {rT : Res T} {rB rB' : Res Bool} {rL rL' : Res (List Bv)} {rD rD' : Res (List D)}
theorem Q0 : Qb d ρ = .ok (.sh d) ρ := rfl
theorem Xp (h : ρ[i]? = some (some t)) : eOp i ρ = .ok (.var i) ρ := by conv => lhs; whnf; rw [h]
theorem Xk (h : ρ[i]? = some (some (.sh d))) : XM i ρ = .ok (.sh d) ρ := by conv => lhs; whnf; rw [h]
theorem Ye (h : ρ[i]? = some (some (.ow true (.list ds)))) (h2 : List.set ρ i (some (.sh (.list ds))) = ρ') : XM i ρ = .ok (.sh (.list ds)) ρ' := by subst h2; conv => lhs; whnf; rw [h]
theorem Qs (h1 : fT ρ = rT) (h2 : GD rT = r) : Qd fT ρ = r := by subst h1; exact h2
theorem Ut {F : D → Option T} (h1 : f ρ = r) (h2 : G0 F r = rT) : Wv F f ρ = rT := by subst h1; exact h2
theorem Xs {F : D → D → Option T} (h1 : f ρ = r) (h2 : GX F g r = rT) : Qq F f g ρ = rT := by subst h1; exact h2
theorem QL {F : List D → Option T} (h1 : fa ρ = rL) (h2 : GQ F rL = rT) : Xc F fa ρ = rT := by subst h1; exact h2
theorem Qw {F : List D → FOut} (h1 : fa ρ = rL) (h2 : Gb F rL = rT) : QV F fa ρ = rT := by subst h1; exact h2
theorem Q5 : Qm ρ = .ok [] ρ := rfl
theorem QJ (h1 : f ρ = r) (h2 : E0 fa r = rL) : Qa f fa ρ = rL := by subst h1; exact h2
theorem QX : Xd ρ = .ok [] ρ := rfl
theorem QM (h1 : fT ρ = rT) (h2 : Ge fd rT = rD) : Qp fT fd ρ = rD := by subst h1; exact h2
theorem Zc (h1 : fd ρ = rD) (h2 : GW rD = rT) : YE fd ρ = rT := by subst h1; exact h2
theorem XU (h1 : fd ρ = rD) (h2 : GJ rD = rT) : XV fd ρ = rT := by subst h1; exact h2
theorem Qz (h1 : f ρ = r) (h2 : Eo r = rB) : Xm f ρ = rB := by subst h1; exact h2
theorem Q2 (h1 : tb ρ = rB) (h2 : Gk rB = rB') : Yb tb ρ = rB' := by subst h1; exact h2
theorem Vz : Ul ρ = .ok true ρ := rfl
theorem Q1 : Zm ρ = .ok false ρ := rfl
theorem O6 (h1 : tb ρ = rB) (h2 : Gh tc rB = rB') : KI tb tc ρ = rB' := by subst h1; exact h2
theorem Xy (h1 : tb ρ = rB) (h2 : orK tc rB = rB') : eOr tb tc ρ = rB' := by subst h1; exact h2
theorem QS {F : D → D → Option T} (h1 : f ρ = r) (h2 : Fc F g r = rB) : Q9 F f g ρ = rB := by subst h1; exact h2
theorem XC {F F' : D → D → Option T} (h1 : f ρ = r) (h2 : EG F F' g h r = rB) : Y7 F F' f g h ρ = rB := by subst h1; exact h2
theorem Xl : Qd (Qb d) ρ = .ok (.val d) ρ := rfl
theorem Of (h : fa ρ = rL) (h2 : VR (.val d) rL = rL') : Qa (Qd (Qb d)) fa ρ = rL' := by subst h; exact h2
theorem QQ : Qa (Qd (Qb d)) Qm ρ = .ok [.val d] ρ := rfl
theorem QC (h0 : ρ[i]? = some (some t)) (h : fa ρ = rL) (h2 : VR (.var i) rL = rL') : Qa (eOp i) fa ρ = rL' := QJ (Xp h0) (Hw h h2)
theorem Qn (h0 : ρ[i]? = some (some t)) : Qa (eOp i) Qm ρ = .ok [.var i] ρ := QJ (Xp h0) rfl
theorem VK {F : D → D → Option T} (h1 : g ρ = r) (h2 : FL F (.val d) r = rT) : Qq F (Qd (Qb d)) g ρ = rT := by subst h1; exact h2
theorem Zq {F : D → D → Option T} (h0 : ρ[i]? = some (some t)) (h1 : g ρ = r) (h2 : FL F (.var i) r = rT) : Qq F (eOp i) g ρ = rT := Xs (Xp h0) (Hs h1 h2)
theorem Xi {F : D → D → Option T} {t' : T} (h0 : ρ[i]? = some (some t)) (h1 : t.get = some x) (h : F x d = some t') : Qq F (eOp i) (Qd (Qb d)) ρ = .ok t' ρ := Xs (Xp h0) (Hs Xl (Hr (Gf h0 h1) rfl h))
theorem Xz {F : D → D → Option T} (h0 : ρ[i]? = some (some t)) (h1 : g ρ = r) (h2 : Bj F (.var i) r = rB) : Q9 F (eOp i) g ρ = rB := QS (Xp h0) (HJ h1 h2)
theorem JG {F : D → D → Option T} (h0 : ρ[i]? = some (some t)) (h1 : t.get = some x) (h : F x d = some (.sh (.bool c))) : Q9 F (eOp i) (Qd (Qb d)) ρ = .ok c ρ := QS (Xp h0) (HJ Xl (HI (Gf h0 h1) rfl h))
theorem U4 : ZA ρ = .ok none ρ := rfl
theorem Kg {j : Int} (h1 : f ρ = .ok a ρ₁) (h2 : a.get ρ₁ = some (.int j)) : YT f ρ = .ok (some j) ρ₁ := (VU h1).trans (Z4 (o := (a.get ρ₁).bind asI) (by rw [h2]; rfl))
theorem UJ {p q : AEnv → Res (Option Int)} {lo hi : Option Int} (h1 : f ρ = .ok a ρ₁) (h2 : p ρ₁ = .ok lo ρ₂) (h3 : q ρ₂ = .ok hi ρ₃) (h4 : a.get ρ₃ = some x) (h5 : YB x lo hi = some t) : ZS f p q ρ = .ok t ρ₃ := by conv => lhs; whnf; rw [h1]; whnf; rw [h2]; whnf; rw [h3]; whnf; rw [h4]; whnf; rw [h5]
theorem XB (h1 : fT ρ = rT) (h2 : Fg rT = rD) : ZB fT ρ = rD := by subst h1; exact h2
theorem FJ (h1 : fT ρ = rT) (h2 : Ga rT = rD) : Bu fT ρ = rD := by subst h1; exact h2
theorem Jx {cap : List (Option Nat)} {bd : D → AEnv → Option AEnv} {l ρ₀ : AEnv} {out : List D} (h1 : Uu ρ cap = some l) (h2 : fd ρ = .ok ds ρ₁) (h3 : Uu ρ₁ cap = some ρ₀) (h4 : YG bd tb fT ρ₀ ds [] = some out) : JW cap fd bd tb fT ρ = .ok (.ow true (.list out)) ρ₁ := by conv => lhs; whnf; rw [h1]; whnf; rw [h2]; whnf; rw [h3]; whnf; rw [h4]
theorem Z2 (h1 : X1 ρ i = some ds) (h2 : fT ρ = .ok t ρ₁) (h3 : X1 ρ₁ i = some ds') (h4 : t.val = d) (h5 : List.set ρ₁ i (some (.ow true (.list (ds' ++ [d])))) = ρ') : ZP i fT ρ = .ok (.sh .none) ρ' := by subst h4; subst h5; conv => lhs; whnf; rw [h1]; whnf; rw [h2]; whnf; rw [h3]
theorem Gs {j : Int} (h1 : X1 ρ i = some ds) (h2 : f ρ = .ok b ρ₁) (h3 : b.get ρ₁ = some (.int j)) (h4 : X1 ρ₁ i = some ds') (h5 : 0 ≤ j ∧ j < ds'.length) (h6 : ds'[j.toNat]? = some d) (h7 : List.set ρ₁ i (some (.ow true (.list (ds'.eraseIdx j.toNat)))) = ρ') : DT i f ρ = .ok (.sh d) ρ' := by
 subst h7
 exact (Z4 h1).trans ((VU h2).trans ((Z4 (o := (b.get ρ₁).bind asI) (by rw [h3]; rfl)).trans ((Z4 h4).trans ((if_pos h5).trans (Z4 h6)))))
variable {sf sg : AEnv → Res Fl} {s s' : Res Fl} {fl : Fl}
theorem QD : QF ρ = .ok .next ρ := rfl
theorem Vu (h : ρ[i]? = some (some (.ow true (.list ds)))) : U1 i ρ = .ok (.ret (.ow true (.list ds))) ρ := by conv => lhs; whnf; rw [h]
theorem Qt (h1 : sf ρ = s) (h2 : FS sg s = s') : Qr sf sg ρ = s' := by subst h1; exact h2
theorem Q7 (h1 : tb ρ = rB) (h2 : ifK sf sg rB = s) : sIf tb sf sg ρ = s := by subst h1; exact h2
theorem Q6 (h1 : fT ρ = rT) (h2 : GK rT = s) : Za fT ρ = s := by subst h1; exact h2
theorem Xb (h1 : f ρ = r) (h2 : EC r = s) : Zb f ρ = s := by subst h1; exact h2
theorem Xf (h1 : fT ρ = rT) (h2 : GC i rT = s) : Qy i fT ρ = s := by subst h1; exact h2
theorem XK (h1 : fd ρ = .ok ds ρ₁) (h2 : ds.length ≤ 1000) : Jv C fd ρ = .exc C ρ₁ := by
 conv => lhs; whnf; rw [h1]
 exact if_pos h2
theorem Zn {b : D → AEnv → Option AEnv} (h1 : fd ρ = rD) (h2 : GU b sf rD = s) : UY fd b sf ρ = s := by subst h1; exact h2
theorem Ov {K : W.Frag} {C' : Addr} (h1 : sf ρ = s) (h2 : GH K C' i sg s = s') : DV K C' i sf sg ρ = s' := by subst h1; exact h2
theorem CT {j : Int} (h1 : fT ρ = .ok t ρ₁) (h2 : X1 ρ₁ i = some ds) (h3 : f ρ₁ = .ok b ρ₂) (h4 : b.get ρ₂ = some (.int j)) (h5 : X1 ρ₂ i = some ds') (h6 : 0 ≤ j ∧ j < ds'.length) (h7 : t.val = d) (h8 : List.set ρ₂ i (some (.ow true (.list (ds'.set j.toNat d)))) = ρ') : YA i f fT ρ = .ok .next ρ' := by
 subst h7; subst h8
 conv => lhs; whnf; rw [h1]; whnf; rw [h2]; whnf; rw [h3]; whnf; rw [h4, h5]
 exact if_pos h6
theorem Xj {n : Nat} {is : List Nat} {o : FOut} (ρ : AEnv) (hl : ds.length = is.length) (hi : Wg n is ds = ρ) (h : sf ρ = s) (ho : DE s = o) : YC n is sf ds = o := by subst hi; subst h; subst ho; exact if_pos hl
theorem XD : DE (.ok (.ret t) ρ) = .ok t := rfl
theorem WQ : DE (.ok .next ρ) = .ok (.sh .none) := rfl
theorem YR : DE (.exc C ρ) = .exc C := rfl
theorem V3 {b : D → AEnv → Option AEnv} : ZT b sf [] ρ = .ok .next ρ := rfl
theorem X8 {b : D → AEnv → Option AEnv} (h1 : b d ρ = some ρ₁) (h2 : sf ρ₁ = s) (h3 : F3 b sf ds s = s') : ZT b sf (d :: ds) ρ = s' := by
 subst h2; subst h3; conv => lhs; whnf; rw [h1]
 rfl
theorem Z0 (h : List.set ρ i (some (.sh d)) = ρ') : XG i d ρ = some ρ' := congrArg some h
end
theorem X5 {α : Type} {n : Nat} : List.length ([] : List α) ≤ n := Nat.zero_le _
theorem X6 {α : Type} {n : Nat} {a : α} {l : List α} (h : l.length ≤ n) : (a :: l).length ≤ n + 1 := Nat.succ_le_succ h
theorem XW {a b : Int} (h : b ≠ 0) : X4 (.int a) (.int b) = some (.sh (.int (a.fmod b))) := if_pos h
theorem XY {a b : Int} (h : b ≠ 0 ∧ b.natAbs < 1073741824) : YW (.int a) (.int b) = some (.sh (.int (a.fdiv b))) := if_pos h
theorem W8 {a b : Int} (h : (small a || small b) = true) : Wr (.int a) (.int b) = some (.sh (.int (a * b))) := if_pos h
theorem J9 {ds : List D} (h : ds.length ≤ 1000000) : YK [.tup ds] = some (.sh (.int ds.length)) := if_pos h
theorem XE {ds : List D} (h : ds.length ≤ 1000000) : YK [.list ds] = some (.sh (.int ds.length)) := if_pos h
theorem Jz {a b : Int} (h : a ≤ b) : leI (.int a) (.int b) = some (.sh (.bool true)) := congrArg (fun b => some (T.sh (.bool b))) (decide_eq_true h)
theorem WY {a b : Int} (h : ¬ a ≤ b) : leI (.int a) (.int b) = some (.sh (.bool false)) := congrArg (fun b => some (T.sh (.bool b))) (decide_eq_false h)
theorem C7 {a b : Int} (h : a < b) : ltI (.int a) (.int b) = some (.sh (.bool true)) := congrArg (fun b => some (T.sh (.bool b))) (decide_eq_true h)
theorem Dh {a b : Int} (h : ¬ a < b) : ltI (.int a) (.int b) = some (.sh (.bool false)) := congrArg (fun b => some (T.sh (.bool b))) (decide_eq_false h)
theorem B7 (a : Int) : eqI (.int a) (.int a) = some (.sh (.bool true)) := by rw [Dk, OM.mpr rfl]
theorem BV {a b : Int} (h : a ≠ b) : eqI (.int a) (.int b) = some (.sh (.bool false)) := by rw [Dk, Ku.mpr h]
theorem Dm (a b : Int) : neI (.int a) (.int b) = some (.sh (.bool !(eqZ a b))) := Ks (CV a b)
theorem GZ {a b : Int} (h : a ≠ b) : neI (.int a) (.int b) = some (.sh (.bool true)) := by rw [Dm, Ku.mpr h]; rfl
theorem EL (a : Int) : neI (.int a) (.int a) = some (.sh (.bool false)) := by rw [Dm, OM.mpr rfl]; rfl
theorem Bk {ds : List D} {i : Int} (h0 : 0 ≤ i) (h1 : i < 2 ^ 63) : Cv ds i = ds[i.toNat]? := (if_pos h0).trans (if_pos h1)
theorem Oj {ds : List D} {i : Int} {d : D} (h0 : 0 ≤ i) (h1 : i < 2 ^ 63) (h : ds[i.toNat]? = some d) : QT (.tup ds) (.int i) = some (.sh d) := congrArg (Option.map T.sh) ((Bk h0 h1).trans h)
theorem Jk {ds : List D} {i : Int} {d : D} (h0 : 0 ≤ i) (h1 : i < 2 ^ 63) (h : ds[i.toNat]? = some d) : QT (.list ds) (.int i) = some (.sh d) := congrArg (Option.map T.sh) ((Bk h0 h1).trans h)
theorem Ob {b : D → AEnv → Option AEnv} {sf : AEnv → Res Fl} (P : AEnv → List D → Prop) (hs : ∀ ρ d ds, P ρ (d :: ds) → ∃ ρ₁ ρ₂, b d ρ = some ρ₁ ∧ sf ρ₁ = .ok .next ρ₂ ∧ P ρ₂ ds) : ∀ (ds : List D) (ρ : AEnv), P ρ ds → ∃ ρ', ZT b sf ds ρ = .ok .next ρ' ∧ P ρ' []
 | [], ρ, hp => ⟨ρ, rfl, hp⟩
 | d :: ds, ρ, hp => by
  obtain ⟨ρ₁, ρ₂, h1, h2, h3⟩ := hs ρ d ds hp
  obtain ⟨ρ', h4, h5⟩ := Ob P hs ds ρ₂ h3
  exact ⟨ρ', X8 h1 h2 (H3 h4), h5⟩
theorem ix0 {x : D} {l : List D} : QT (.tup (x :: l)) (.int 0) = some (.sh x) := Oj (Int.le_refl _) (by decide) rfl
theorem ix1 {x y : D} {l : List D} : QT (.tup (x :: y :: l)) (.int 1) = some (.sh y) := Oj (by decide) (by decide) rfl
theorem il0 {x : D} {l : List D} : QT (.list (x :: l)) (.int 0) = some (.sh x) := Jk (Int.le_refl _) (by decide) rfl
theorem il1 {x y : D} {l : List D} : QT (.list (x :: y :: l)) (.int 1) = some (.sh y) := Jk (by decide) (by decide) rfl
theorem J5 {b : Int} (h : b.natAbs < 2 ^ 63) : small b = true := decide_eq_true h
theorem EK {ds : List D} {p : Nat} (h : p ≤ ds.length) : W7 ds none (some (p : Int)) = ds.take p := by
 unfold W7
 simp only [Option.elim, List.drop_zero, clipAt_nat, Nat.sub_zero, Nat.min_eq_left h]
theorem OF {ds : List D} {p : Nat} (h : p ≤ ds.length) : W7 ds (some (p : Int)) none = ds.drop p := by
 unfold W7
 simp only [Option.elim, clipAt_nat, Nat.min_eq_left h]
 exact List.take_of_length_le (by rw [List.length_drop]; exact Nat.le_refl _)
noncomputable def G4 (P : AEnv → Prop) (R : Res Fl → Prop) : Res Fl → Prop
 | .ok .next ρ => P ρ
 | .ok .cont ρ => P ρ
 | .ok .brk ρ => R (.ok .next ρ)
 | .ok (.ret t) ρ => R (.ok (.ret t) ρ)
 | .exc C ρ => R (.exc C ρ)
 | .stuck => False
theorem B8 {t : AEnv → Res Bool} {b : AEnv → Res Fl} (P : Nat → AEnv → Prop) (R : Res Fl → Prop) (hs : ∀ m ρ, P m ρ → (∃ ρ₁, t ρ = .ok false ρ₁ ∧ R (.ok .next ρ₁)) ∨ ∃ ρ₁ r, t ρ = .ok true ρ₁ ∧ b ρ₁ = r ∧ G4 (fun ρ' => ∃ m', m' < m ∧ P m' ρ') R r) : ∀ (n m : Nat) (ρ : AEnv), P m ρ → m < n → ∃ r, OS n t b ρ = r ∧ R r
 | 0, _, _, _, h => absurd h (Nat.not_lt_zero _)
 | n + 1, m, ρ, hp, hm => by
  rcases hs m ρ hp with ⟨ρ₁, h1, h2⟩ | ⟨ρ₁, r, h1, h2, h3⟩
  ·refine ⟨_, ?_, h2⟩
   conv => lhs; whnf; rw [h1]
   rfl
  ·have key : ∀ ρ₂, (∃ m', m' < m ∧ P m' ρ₂) → ∃ r, J2 t b n ρ₂ = r ∧ R r := fun ρ₂ ⟨m', h4, h5⟩ => B8 P R hs n m' ρ₂ h5 (by lia)
   have e : OS (n + 1) t b ρ = ((t ρ).bind fun c ρ₁ => if c then (b ρ₁).bind fun fl ρ₂ => (match fl with | .next => J2 t b n ρ₂ | .cont => J2 t b n ρ₂ | .brk => .ok .next ρ₂ | .ret t => .ok (.ret t) ρ₂) else .ok .next ρ₁) := rfl
   rw [e, h1]
   show ∃ r, ((b ρ₁).bind fun fl ρ₂ => (match fl with | .next => J2 t b n ρ₂ | .cont => J2 t b n ρ₂ | .brk => .ok .next ρ₂ | .ret t => .ok (.ret t) ρ₂)) = r ∧ R r
   rw [h2]
   cases r with
   | stuck => exact h3.elim
   | exc C ρ₂ => exact ⟨_, rfl, h3⟩
   | ok fl ρ₂ =>
    cases fl with
    | next => exact key _ h3
    | cont => exact key _ h3
    | brk => exact ⟨_, rfl, h3⟩
    | ret v => exact ⟨_, rfl, h3⟩
theorem CF {b : D → AEnv → Option AEnv} {sf : AEnv → Res Fl} (P : AEnv → List D → Prop) (R : Res Fl → Prop) (h0 : ∀ ρ, P ρ [] → R (.ok .next ρ)) (hs : ∀ ρ d ds, P ρ (d :: ds) → ∃ ρ₁ r, b d ρ = some ρ₁ ∧ sf ρ₁ = r ∧ G4 (fun ρ' => P ρ' ds) R r) : ∀ (ds : List D) (ρ : AEnv), P ρ ds → ∃ r, ZT b sf ds ρ = r ∧ R r
 | [], ρ, hp => ⟨_, rfl, h0 ρ hp⟩
 | d :: ds, ρ, hp => by
  obtain ⟨ρ₁, r, h1, h2, h3⟩ := hs ρ d ds hp
  have e : ZT b sf (d :: ds) ρ = F3 b sf ds r := X8 h1 h2 rfl
  rw [e]
  cases r with
  | stuck => exact h3.elim
  | exc C ρ₂ => exact ⟨_, rfl, h3⟩
  | ok fl ρ₂ =>
   cases fl with
   | next => exact CF P R h0 hs ds _ h3
   | cont => exact CF P R h0 hs ds _ h3
   | brk => exact ⟨_, rfl, h3⟩
   | ret v => exact ⟨_, rfl, h3⟩
theorem Gc {a b : Int} (h : b < a) : gtI (.int a) (.int b) = some (.sh (.bool true)) := congrArg (fun b => some (T.sh (.bool b))) (decide_eq_true h)
theorem B3 {a b : Int} (h : ¬ b < a) : gtI (.int a) (.int b) = some (.sh (.bool false)) := congrArg (fun b => some (T.sh (.bool b))) (decide_eq_false h)
theorem De {p : Nat} (h : p ≤ 1000) : (0 : Int) ≤ (p : Int) ∧ (p : Int) < 2 ^ 63 := by lia
theorem VD {ds : List D} {p : Nat} {d : D} (hp : p ≤ 1000) (h : ds[p]? = some d) : QT (.list ds) (.int (p : Int)) = some (.sh d) := Jk (De hp).1 (De hp).2 h
theorem Bs {ds : List D} {p : Nat} {d : D} (hp : p ≤ 1000) (h : ds[p]? = some d) : QT (.tup ds) (.int (p : Int)) = some (.sh d) := Oj (De hp).1 (De hp).2 h
theorem Dg {n : Nat} (h : n ≤ 12) : n ≤ 1000000 := Nat.le_trans h (by decide)
theorem Eh {n : Nat} (h : n ≤ 12) : n ≤ 1000 := Nat.le_trans h (by decide)
theorem Up {xs ys : List D} (h : xs.length + ys.length ≤ 1000000) : Xg (.list xs) (.list ys) = some (.ow true (.list (xs ++ ys))) := if_pos h
theorem GI {xs ys : List D} (h : xs.length + ys.length ≤ 1000000) : Xg (.tup xs) (.tup ys) = some (.sh (.tup (xs ++ ys))) := if_pos h
theorem V6 {ds : List D} (h : ds.length ≤ 1000000) : ZH [.tup ds] = some (.ow true (.list ds)) := if_pos h
theorem FK {ds : List D} (h : ds.length ≤ 1000000) : ZH [.list ds] = some (.ow true (.list ds)) := if_pos h
theorem C0 {lo hi st : Int} (h : ZF lo hi st = true) : ZH [.range lo hi st] = some (.ow true (.list (Uq lo hi st))) := if_pos h
theorem Fj {ds : List D} (h : ds.length ≤ 1000000) : Yz [.list ds] = some (.sh (.tup ds)) := if_pos h
theorem EA {lo hi st : Int} (h : ZF lo hi st = true) : Yz [.range lo hi st] = some (.sh (.tup (Uq lo hi st))) := if_pos h
theorem Bl {lo hi st : Int} (h : ZF lo hi st = true) : Zt (.range lo hi st) = some (Uq lo hi st) := if_pos h
theorem UR {ds : List D} {lo hi : Option Int} (h : ds.length ≤ 1000000) : YB (.list ds) lo hi = some (.ow true (.list (W7 ds lo hi))) := if_pos h
theorem OA {ds : List D} {lo hi : Option Int} (h : ds.length ≤ 1000000) : YB (.tup ds) lo hi = some (.sh (.tup (W7 ds lo hi))) := if_pos h
theorem Fe {x : D} {n : Int} (h : 0 ≤ n ∧ n ≤ 1000000) : Wr (.list [x]) (.int n) = some (.ow true (.list (List.replicate n.toNat x))) := if_pos h
theorem C3 {ds : List D} {bs : List Bool} (h : U6 ds = some bs) : DD [.list ds] = some (.sh (.bool (bs.all id))) := congrArg (Option.map fun (bs : List Bool) => T.sh (.bool (bs.all id))) h
theorem Dr {ds : List D} {ns : List Int} (h : Ug ds = some ns) (hl : ns.length < 64) : Oc [.tup ds] = some (.ow true (.list ((UI ns).map .int))) := (congrArg (fun (o : Option (List Int)) => Option.bind o fun (ns : List Int) => if ns.length < 64 then some (T.ow true (.list ((UI ns).map .int))) else none) h).trans (if_pos hl)
theorem DL {ds : List D} {d : D} (hl : ds.length ≤ 1000) : QT (.list (ds ++ [d])) (.int (-1)) = some (.sh d) := by
 have hn : (ds ++ [d]).length = ds.length + 1 := List.length_append
 have e : Cv (ds ++ [d]) (-1) = (ds ++ [d])[((-1 : Int) + (ds ++ [d]).length).toNat]? := (if_neg (by decide)).trans (if_pos ⟨by decide, by rw [hn]; simp +arith⟩)
 rw [hn, show ((-1 : Int) + ((ds.length + 1 : Nat) : Int)).toNat = ds.length by simp +arith, List.getElem?_append_right (Nat.le_refl _), Nat.sub_self] at e
 exact congrArg (Option.map T.sh) e
theorem BU (x y : Str) (hx : PyData.strOk x = true) (hy : PyData.strOk y = true) : eqD (.list [.str y, .str x]) (.list [.str y, .str x]) = some true := by
 have hs : SeqAt.shaped (.list [.str y, .str x]) = true := Bool.and_eq_true_iff.mpr ⟨by show (PyData.strOk y && (PyData.strOk x && true)) = true; rw [hx, hy]; rfl, rfl⟩
 refine KG rfl rfl hs hs ?_
 show ((y == y) && ((x == x) && true)) = true
 rw [beq_self_eq_true, beq_self_eq_true]; rfl
end Mine
end

section
set_option Elab.async false
set_option maxRecDepth 100000
namespace Mine
open PySem
noncomputable def G1 (i : Nat) (F : List D → FOut) (r : Res (List Bv)) : Res T := r.bind fun bs ρ₁ => match X0 ρ₁ (.var i :: bs) with
 | some ds => YO (.var i :: bs) ρ₁ (F ds)
 | none => .stuck
theorem H5 {i : Nat} {F : List D → FOut} {o : FOut} {ρ : AEnv} {bs : List Bv} {ds : List D} {rT : Res T} (h : X0 ρ (.var i :: bs) = some ds) (h2 : F ds = o) (h3 : YO (.var i :: bs) ρ o = rT) : G1 i F (.ok bs ρ) = rT := by
 subst h2; subst h3; conv => lhs; whnf; rw [h]
section
variable {ρ ρ₁ ρ₂ ρ' : AEnv} {d y z : D} {i j : Nat} {b c : Bv} {bs : List Bv} {ds es : List D} {C : Addr} {n : Str} {ns : List Str} {kk : List Int} {ks : List (List Int)} {fa : AEnv → Res (List Bv)} {f g : AEnv → Res Bv} {fT gT : AEnv → Res T} {rL : Res (List Bv)} {rT : Res T} {p p' : List (List Int) × List D}
theorem X9 (h : ρ[i]? = some (some (.sh (.obj C ns ds)))) (h2 : Ol n ns ds = some d) (h3 : WZ d = true) : Jq C n i ρ = .ok (.sh d) ρ := by
 conv => lhs; whnf; rw [h]
 refine (if_pos rfl).trans ?_
 conv => lhs; rw [h2]
 exact if_pos h3
theorem ZO {F : List D → FOut} (h : ρ[i]? = some (some (.sh (.obj C ns es)))) (hn : ns.contains n = false) (h1 : fa ρ = rL) (h2 : G1 i F rL = rT) : JK C n i F fa ρ = rT := by
 subst h1; subst h2
 conv => lhs; whnf; rw [h]
 exact if_pos ⟨rfl, fun q => by rw [List.contains_iff_mem.mpr q] at hn; cases hn⟩
theorem Fv {I : Addr → List D → IOut} (h1 : fa ρ = .ok bs ρ₁) (h2 : X0 ρ₁ bs = some ds) (h3 : bs.all (ZR ρ₁) = true) (h4 : JH I ds = .ok es) : Wh C ns I fa ρ = .ok (.sh (.obj C ns es)) ρ₁ := by
 conv => lhs; whnf; rw [h1]; whnf; rw [h2]
 refine (if_pos h3).trans ?_
 conv => lhs; rw [h4]
theorem EW {I : Addr → List D → IOut} {C' : Addr} (h1 : fa ρ = .ok bs ρ₁) (h2 : X0 ρ₁ bs = some ds) (h3 : bs.all (ZR ρ₁) = true) (h4 : JH I ds = .exc C') : Wh C ns I fa ρ = .exc C' ρ₁ := by
 conv => lhs; whnf; rw [h1]; whnf; rw [h2]
 refine (if_pos h3).trans ?_
 conv => lhs; rw [h4]
theorem Ud {v : Int} : WZ (.int v) = true := rfl
theorem Jb {ds : List D} : WZ (.list ds) = true := rfl
theorem ZJ {i j : Nat} {x y : D} {ρ ρ₁ ρ₂ : AEnv} (h1 : List.set ρ i (some (.sh x)) = ρ₁) (h2 : List.set ρ₁ j (some (.sh y)) = ρ₂) : Y6 [i, j] (.tup [x, y]) ρ = some ρ₂ := by
 subst h1 h2; rfl
end
end Mine
end

section
set_option Elab.async false
set_option maxRecDepth 100000
namespace Mine
open PySem
section
variable {ρ ρ₁ ρ₂ ρ' : AEnv} {i j : Nat} {d r : D} {ds hs : List D} {a : T} {f : AEnv → Res T} {fa : AEnv → Res (List Bv)} {F : Addr → List D → Option (D × D)} {b0 b1 b2 b3 : Bv}
theorem O2 (h1 : f ρ = .ok a ρ₁) (h2 : a.val = d) : V2 f ρ = .ok (.sh d) ρ₁ := by
 subst h2; conv => lhs; whnf; rw [h1]
theorem Oz (h1 : X1 ρ i = some ds) (h2 : List.set ρ i (some (.ow true (.list []))) = ρ') : Bf i ρ = .ok (.sh .none) ρ' := by
 subst h2; exact Z4 h1
theorem Oq (h1 : fa ρ = .ok [b0, b1, b2, b3, .var i] ρ₁) (h3 : X0 ρ₁ [b0, b1, b2, b3] = some ds) (h5 : X1 ρ₁ i = some hs) (h6 : BB F ds = some (r, d)) (h7 : List.set ρ₁ i (some (.ow true (.list (hs ++ [d])))) = ρ') (h4 : [b0, b1, b2, b3].all (ZR ρ₁) = true) : Uo i F fa ρ = .ok (.sh r) ρ' := by
 subst h7
 have h2 : K7 [b0, b1, b2, b3, .var i] i = some [b0, b1, b2, b3] := if_pos rfl
 exact (VU h1).trans ((Z4 h2).trans ((Z4 h3).trans ((if_pos h4).trans ((Z4 h5).trans (Z4 h6)))))
end
theorem Dl {n : Nat} {is : List Nat} {j : Nat} {pre f : AEnv → Res Fl} {fe : AEnv → Res T} {a : Addr} {ds : List D} {ρ ρ₁ ρ₂ ρ₃ : AEnv} {t : T} {d r : D} (hl : ds.length + 1 = is.length) (hi : Wg n is (ds ++ [.glob (.ref a)]) = ρ) (h1 : pre ρ = .ok .next ρ₁) (h2 : fe ρ₁ = .ok t ρ₂) (h3 : f ρ₂ = .ok (.ret (.sh r)) ρ₃) (hv : t.val = d) (hr : Od ρ₁ j a = true) (hs : Yc ρ₂ = true) : Ec n is j pre fe f a ds = some (r, d) := by
 subst hi; subst hv
 refine (if_pos hl).trans ?_
 rw [h1]
 show GT j fe f a ρ₁ = _
 refine (if_pos hr).trans ?_
 rw [h2]
 show (if Yc ρ₂ = true then (Fs (f ρ₂)).map (·, t.val) else none) = _
 rw [if_pos hs, h3]; rfl
end Mine
end

section
set_option Elab.async false
set_option maxRecDepth 100000
set_option maxHeartbeats 4000000
namespace Mine
open PySem PyProof.Rows
noncomputable def gd (p : Program) (w : World) (B : Heap) (mg mb : Str → Option Value) (q : Bool) : Gd := ⟨p, w, B, mg, mb, hd.heap_1 w.params, q⟩
noncomputable def WJ (K : W.Frag) : AEnv → Res Fl := (Qr (sIf (Q9 ltI (eOp 1) (Qd (Xc YK (Qa (eOp 0) Qm)))) (Qr (Za (Qq QT (eOp 0) (eOp 1))) QF) QF) (Qr (Za (Qb (.int 0))) QF))
noncomputable def XO (K : W.Frag) : List D → FOut := YC 2 [0, 1] (WJ K)
variable {p : Program} {w : World} {B : Heap} {mg mb : Str → Option Value}
theorem ZZ (g : Gr (gd p w B mg mb true)) : Yd (gd p w B mg mb true) 1 (.ref 221) (XO (gd p w B mg mb true).K) :=
 fnI g 221 2 [0, 1] (f := WJ (gd p w B mg mb true).K) (Qc (Xq (Y3 (nB 1) (Qf.of (cB g (.builtin "len") ZN (aC (nB 0) Qe))) Dd) (Qc (Qv (sub (nB 0) (nB 1))) Qh) Qh) (Qc (Qv Qi) Qh)) (KY fun _ _ => by kernel_rfl)
noncomputable def Kz (K : W.Frag) : AEnv → Res Fl := (Qr (Za (Qq X4 (Qd (Qq Xg (Qd (Qq Xg (Qd (Qq Xg (Qd (Qq Wr (eOp 0) (Qd (Qb (.int 48271))))) (Qd (Qq Wr (Qd (Qq Wr (Qd (Qb (.int 7919))) (eOp 1))) (eOp 1))))) (Qd (Qq Wr (Qd (Qb (.int 104729))) (eOp 1))))) (Qd (Qb (.int 12345))))) (Qd (Qb (.int 2147483647))))) QF)
noncomputable def XN (K : W.Frag) : List D → FOut := YC 2 [0, 1] (Kz K)
theorem YL (g : Gr (gd p w B mg mb true)) : Yd (gd p w B mg mb true) 1 (.ref 228) (XN (gd p w B mg mb true).K) :=
 fnI g 228 2 [0, 1] (f := Kz (gd p w B mg mb true).K) (Qc (Qv (Qk (Qf.of (Qk (Qf.of (Qk (Qf.of (Qk (Qf.of (Qk (nB 0) (Qf.of Qi) U2)) (Qf.of (Qk (Qf.of (Qk (Qf.of Qi) (nB 1) U2)) (nB 1) U2)) Q4)) (Qf.of (Qk (Qf.of Qi) (nB 1) U2)) Q4)) (Qf.of Qi) Q4)) (Qf.of Qi) Zk)) Qh) (KY fun _ _ => by kernel_rfl)
noncomputable def KJ (K : W.Frag) : AEnv → Res Fl := (Qr (Qy 2 (Xc ZH (Qa (Qd (Xc YI (Qa (eOp 1) Qm))) Qm))) (Qr (Qy 3 (XV Xd)) (Qr (UY (ZB (Xc YI (Qa (eOp 1) Qm))) (XG 4) (Qr (Zb (Qd (ZP 3 (DT 2 (Qd (Qq X4 (Qd (Qq YW (Qd (QV (XN K) (Qa (eOp 0) (Qa (eOp 4) Qm)))) (Qd (Qb (.int 7))))) (Qd (Xc YK (Qa (eOp 2) Qm))))))))) QF)) (Qr (Za (Xc Yz (Qa (eOp 3) Qm))) QF))))
noncomputable def Jj (K : W.Frag) : List D → FOut := YC 5 [0, 1] (KJ K)
theorem O3 (g : Gr (gd p w B mg mb true)) : Yd (gd p w B mg mb true) 2 (.ref 235) (Jj (gd p w B mg mb true).K) :=
 fnI g 235 5 [0, 1] (f := KJ (gd p w B mg mb true).K) (Qc (asg 2 (cB g (.type "list") (ZQ rfl) (aC (Qf.of (cB g (.type "range") JB (aC (nB 1) Qe))) Qe))) (Qc (asg 3 (QE Ql)) (Qc (K3 (Zl (cB g (.type "range") JB (aC (nB 1) Qe))) (tgN 4) (Qc (exM (Es 3 (He 2 (Qf.of (Qk (Qf.of (Qk (Qf.of (cF g 228 (YL g) (aC (nB 0) (aC (nB 4) Qe)))) (Qf.of Qi) Y0)) (Qf.of (cB g (.builtin "len") ZN (aC (nB 2) Qe))) Zk))))) Qh)) (Qc (Qv (cB g (.type "tuple") (JF rfl) (aC (nB 3) Qe))) Qh)))) (KY fun _ _ => by kernel_rfl)
noncomputable def Jg (K : W.Frag) : AEnv → Res Fl := (Qr (Qy 2 (XV Xd)) (Qr (Qy 3 (Qb (.int 0))) (Qr (OS 1000 (Q9 ltI (eOp 3) (Qd (Qq Oy (eOp 1) (Qd (Qb (.int 1)))))) (Qr (sIf (Q9 gtI (Qd (Qq X4 (Qd (Qq YW (Qd (QV (XN K) (Qa (eOp 0) (Qa (eOp 3) Qm)))) (Qd (Qb (.int 5))))) (Qd (Qb (.int 3))))) (Qd (Qb (.int 0)))) (Qr (Zb (Qd (ZP 2 (XM 3)))) (Qr (Qy 3 (Qq Xg (eOp 3) (Qd (Qb (.int 1))))) QF)) QF) (Qr (Qy 3 (Qq Xg (eOp 3) (Qd (Qb (.int 1))))) QF))) (Qr (sIf (Q9 eqI (eOp 2) (Qd (XV Xd))) (Qr (Qy 2 (XV (Qp (Qq X4 (Qd (QV (XN K) (Qa (eOp 0) (Qa (Qd (Qb (.int 20))) Qm)))) (Qd (Qq Oy (eOp 1) (Qd (Qb (.int 1)))))) Xd))) QF) QF) (Qr (Za (Xc Yz (Qa (eOp 2) Qm))) QF)))))
noncomputable def XS (K : W.Frag) : List D → FOut := YC 4 [0, 1] (Jg K)
theorem Wo (g : Gr (gd p w B mg mb true)) : Yd (gd p w B mg mb true) 2 (.ref 242) (XS (gd p w B mg mb true).K) :=
 fnI g 242 4 [0, 1] (f := Jg (gd p w B mg mb true).K) (Qc (asg 2 (QE Ql)) (Qc (asg 3 Qi) (Qc (Cy (Y3 (nB 3) (Qf.of (Qk (nB 1) (Qf.of Qi) VO)) Dd) (Qc (Xq (Y3 (Qf.of (Qk (Qf.of (Qk (Qf.of (cF g 228 (YL g) (aC (nB 0) (aC (nB 3) Qe)))) (Qf.of Qi) Y0)) (Qf.of Qi) Zk)) (Qf.of Qi) F7) (Qc (exM (Es 2 (J4.of (nV 3)))) (Qc (asg 3 (Qk (nB 3) (Qf.of Qi) Q4)) Qh)) Qh) (Qc (asg 3 (Qk (nB 3) (Qf.of Qi) Q4)) Qh))) (Qc (Xq (Y3 (nB 2) (Qf.of (QE Ql)) UW) (Qc (asg 2 (QE (vC (Qk (Qf.of (cF g 228 (YL g) (aC (nB 0) (aC (Qf.of Qi) Qe)))) (Qf.of (Qk (nB 1) (Qf.of Qi) VO)) Zk) Ql))) Qh) Qh) (Qc (Qv (cB g (.type "tuple") (JF rfl) (aC (nB 2) Qe))) Qh))))) (KY fun _ _ => by kernel_rfl)
noncomputable def Wy (K : W.Frag) : AEnv → Res Fl := (Qr (sIf (Q9 eqI (Qd (Qq X4 (eOp 0) (Qd (Qb (.int 8))))) (Qd (Qb (.int 1)))) (Qr (Za (Qq Xg (Qd (Qb (.int 8))) (Qd (Qq X4 (Qd (Qq YW (eOp 0) (Qd (Qb (.int 8))))) (Qd (Qb (.int 23))))))) QF) QF) (Qr (Za (Qq X4 (Qd (Qq YW (eOp 0) (Qd (Qb (.int 8))))) (Qd (Qb (.int 8))))) QF))
noncomputable def Un (K : W.Frag) : List D → FOut := YC 1 [0] (Wy K)
theorem Br (g : Gr (gd p w B mg mb true)) : Yd (gd p w B mg mb true) 1 (.ref 261) (Un (gd p w B mg mb true).K) :=
 fnI g 261 1 [0] (f := Wy (gd p w B mg mb true).K) (Qc (Xq (Y3 (Qf.of (Qk (nB 0) (Qf.of Qi) Zk)) (Qf.of Qi) UW) (Qc (Qv (Qk (Qf.of Qi) (Qf.of (Qk (Qf.of (Qk (nB 0) (Qf.of Qi) Y0)) (Qf.of Qi) Zk)) Q4)) Qh) Qh) (Qc (Qv (Qk (Qf.of (Qk (nB 0) (Qf.of Qi) Y0)) (Qf.of Qi) Zk)) Qh)) (O8 fun _ => by kernel_rfl)
noncomputable def UG (K : W.Frag) : AEnv → Res Fl := (Qr (Qy 3 (QV (XO K) (Qa (eOp 0) (Qa (eOp 1) Qm)))) (Qr (Qy 4 (XV Xd)) (Qr (UY (ZB (Xc YI (Qa (Qd (QV (Un K) (Qa (eOp 3) Qm))) Qm))) (XG 5) (Qr (Zb (Qd (ZP 4 (QV (XS K) (Qa (Qd (QV (XN K) (Qa (Qd (QV (XO K) (Qa (eOp 0) (Qa (Qd (Qq Xg (Qd (Qq Xg (eOp 1) (Qd (Qb (.int 2))))) (Qd (Qq X4 (eOp 5) (Qd (Qb (.int 6))))))) Qm)))) (Qa (Qd (Qq YW (eOp 5) (Qd (Qb (.int 6))))) Qm)))) (Qa (eOp 2) Qm)))))) QF)) (Qr (Qy 6 (QV (XO K) (Qa (eOp 0) (Qa (Qd (Qq Xg (eOp 1) (Qd (Qb (.int 1))))) Qm)))) (Qr (Qy 7 (JW [none, none, some 2, some 6] (ZB (Xc YI (Qa (Qd (Qq Xg (Qd (Qb (.int 1))) (Qd (Qq X4 (Qd (Qq YW (eOp 3) (Qd (Qb (.int 40))))) (Qd (Qb (.int 4))))))) Qm))) (XG 1) Bc (QV (XS K) (Qa (Qd (QV (XN K) (Qa (eOp 3) (Qa (Qd (Qq Xg (Qd (Qb (.int 30))) (eOp 1))) Qm)))) (Qa (eOp 2) Qm))))) (Qr (Za (YE (Qp (XM 4) (Qp (XM 7) Xd)))) QF))))))
noncomputable def YX (K : W.Frag) : List D → FOut := YC 8 [0, 1, 2] (UG K)
theorem VX (g : Gr (gd p w B mg mb true)) : Yd (gd p w B mg mb true) 3 (.ref 266) (YX (gd p w B mg mb true).K) :=
 fnI g 266 8 [0, 1, 2] (f := UG (gd p w B mg mb true).K) (Qc (asg 3 (cF g 221 (ZZ g) (aC (nB 0) (aC (nB 1) Qe)))) (Qc (asg 4 (QE Ql)) (Qc (K3 (Zl (cB g (.type "range") JB (aC (Qf.of (cF g 261 (Br g) (aC (nB 3) Qe))) Qe))) (tgN 5) (Qc (exM (Es 4 (J4.of (cF g 242 (Wo g) (aC (Qf.of (cF g 228 (YL g) (aC (Qf.of (cF g 221 (ZZ g) (aC (nB 0) (aC (Qf.of (Qk (Qf.of (Qk (nB 1) (Qf.of Qi) Q4)) (Qf.of (Qk (nB 5) (Qf.of Qi) Zk)) Q4)) Qe)))) (aC (Qf.of (Qk (nB 5) (Qf.of Qi) Y0)) Qe)))) (aC (nB 2) Qe)))))) Qh)) (Qc (asg 6 (cF g 221 (ZZ g) (aC (nB 0) (aC (Qf.of (Qk (nB 1) (Qf.of Qi) Q4)) Qe)))) (Qc (GL 7 [none, none, some 2, some 6] (Zl (cB g (.type "range") JB (aC (Qf.of (Qk (Qf.of Qi) (Qf.of (Qk (Qf.of (Qk (nB 3) (Qf.of Qi) Y0)) (Qf.of Qi) Zk)) Q4)) Qe))) (tgN 1) Kh (cF g 242 (Wo g) (aC (Qf.of (cF g 228 (YL g) (aC (nB 3) (aC (Qf.of (Qk (Qf.of Qi) (nB 1) Q4)) Qe)))) (aC (nB 2) Qe)))) (Qc (Qv (QY (vC (nV 4) (vC (nV 7) Ql)))) Qh)))))) (F6 fun _ _ _ => by kernel_rfl)
noncomputable def OD (K : W.Frag) : AEnv → Res Fl := (Qr (Za (eBo .And (Qd (Xc (QK K) (Qa (eOp 0) (Qa (Qd (Qb (.glob (.type "int")))) Qm)))) (Wv GB (Qd (Xc (QK K) (Qa (eOp 0) (Qa (Qd (Qb (.glob (.type "bool")))) Qm))))))) QF)
noncomputable def Zj (K : W.Frag) : List D → FOut := YC 1 [0] (OD K)
theorem JQ (g : Gr (gd p w B mg mb true)) : Yd (gd p w B mg mb true) 1 (.ref 118) (Zj (gd p w B mg mb true).K) :=
 fnI g 118 1 [0] (f := OD (gd p w B mg mb true).K) (Qc (Qv (Cm (Cs (Qf.of (cB g (.builtin "isinstance") (QN g.ok) (aC (nB 0) (aC (Qf.of (gB g (.type "int"))) Qe)))) (DJ (Zh (Qf.of (cB g (.builtin "isinstance") (QN g.ok) (aC (nB 0) (aC (Qf.of (gB g (.type "bool"))) Qe)))) GF))))) Qh) (O8 fun _ => by kernel_rfl)
noncomputable def Je (K : W.Frag) : AEnv → Res Fl := (Qr (sIf (eOr (Yb (Xm (Qd (QV (Zj K) (Qa (eOp 0) Qm))))) (eOr (Yb (Y7 leI leI (Qd (Qb (.int 3))) (eOp 0) (Qd (Qb (.int 12))))) Zm)) (Qr (Jv 37 (Qp (Qb (.str "there are 3 to 12 bells")) Xd)) QF) QF) QF)
noncomputable def Zi (K : W.Frag) : List D → FOut := YC 1 [0] (Je K)
theorem Vj (g : Gr (gd p w B mg mb true)) : Yd (gd p w B mg mb true) 2 (.ref 125) (Zi (gd p w B mg mb true).K) :=
 fnI g 125 1 [0] (f := Je (gd p w B mg mb true).K) (Qc (Xq (Xv (Xa (Xo (Yk (Qf.of (cF g 118 (JQ g) (aC (nB 0) Qe))))) (Xa (Xo (chT (Qf.of (gI g 3 321)) (nB 0) (Qf.of (gI g 12 323)) WU WU)) XA))) (Qc (CR g 37 F.excBase_ValueError (vC Xh Ql)) Qh) Qh) Qh) (O8 fun _ => by kernel_rfl)
noncomputable def ZL (K : W.Frag) : AEnv → Res Fl := (Qr (sIf (eOr (Yb (Xm (Qd (Xc (QK K) (Qa (eOp 1) (Qa (Qd (Qb (.glob (.type "tuple")))) Qm)))))) (eOr (Q9 eqI (Qd (Xc YK (Qa (eOp 1) Qm))) (Qd (Qb (.int 0)))) Zm)) (Qr (Jv 61 (Qp (Qb (.str "no change")) Xd)) QF) QF) (Qr (Qy 2 (Wv Us (Qd (Qb (.int 2))))) (Qr (UY (ZB (XM 1)) (XG 3) (Qr (sIf (eOr (Yb (Xm (Qd (QV (Zj K) (Qa (eOp 3) Qm))))) (eOr (Yb (Y7 leI leI (Qd (Qq Xg (eOp 2) (Qd (Qb (.int 2))))) (eOp 3) (Qd (Qq Oy (eOp 0) (Qd (Qb (.int 2))))))) Zm)) (Qr (Jv 61 (Qp (Qb (.str "no place of a change")) Xd)) QF) QF) (Qr (Qy 2 (XM 3)) QF))) QF)))
noncomputable def QW (K : W.Frag) : List D → FOut := YC 4 [0, 1] (ZL K)
theorem OV (g : Gr (gd p w B mg mb true)) : Yd (gd p w B mg mb true) 2 (.ref 137) (QW (gd p w B mg mb true).K) :=
 fnI g 137 4 [0, 1] (f := ZL (gd p w B mg mb true).K) (Qc (Xq (Xv (Xa (Xo (Yk (Qf.of (cB g (.builtin "isinstance") (QN g.ok) (aC (nB 1) (aC (Qf.of (gB g (.type "tuple"))) Qe)))))) (Xa (Y3 (Qf.of (cB g (.builtin "len") ZN (aC (nB 1) Qe))) (Qf.of Qi) UW) XA))) (Qc (CR g 61 F.excBase_ValueError (vC Xh Ql)) Qh) Qh) (Qc (asg 2 (Zh (Qf.of Qi) UV)) (Qc (K3 (Zl (nV 1)) (tgN 3) (Qc (Xq (Xv (Xa (Xo (Yk (Qf.of (cF g 118 (JQ g) (aC (nB 3) Qe))))) (Xa (Xo (chT (Qf.of (Qk (nB 2) (Qf.of Qi) Q4)) (nB 3) (Qf.of (Qk (nB 0) (Qf.of Qi) VO)) WU WU)) XA))) (Qc (CR g 61 F.excBase_ValueError (vC Xh Ql)) Qh) Qh) (Qc (asg 2 (nV 3)) Qh))) Qh))) (KY fun _ _ => by kernel_rfl)
noncomputable def XQ (K : W.Frag) : AEnv → Res Fl := (Qr (Zb (Qd (QV (Zi K) (Qa (eOp 1) Qm)))) (Qr (sIf (eOr (Yb (Xm (Qd (Xc (QK K) (Qa (eOp 2) (Qa (Qd (Qb (.glob (.type "list")))) Qm)))))) (eOr (Q9 gtI (Qd (Xc YK (Qa (eOp 2) Qm))) (Qd (Qb (.int 30)))) Zm)) (Qr (Jv 73 (Qp (Qb (.str "inner changes are a list of 0 to 30")) Xd)) QF) QF) (Qr (sIf (eOr (Yb (Xm (Qd (Xc (QK K) (Qa (eOp 3) (Qa (Qd (Qb (.glob (.type "list")))) Qm)))))) (eOr (Yb (Y7 leI leI (Qd (Qb (.int 1))) (Qd (Xc YK (Qa (eOp 3) Qm))) (Qd (Qb (.int 4))))) Zm)) (Qr (Jv 73 (Qp (Qb (.str "calls are a list of 1 to 4")) Xd)) QF) QF) (Qr (UY (ZB (Qq Xg (eOp 2) (eOp 3))) (XG 4) (Qr (Zb (Qd (QV (QW K) (Qa (eOp 1) (Qa (eOp 4) Qm))))) QF)) QF))))
noncomputable def XR (K : W.Frag) : List (Str × (AEnv → Res T)) := [("bells", (XM 1)), ("steps", (Xc ZH (Qa (eOp 2) Qm))), ("ways", (Xc ZH (Qa (eOp 3) Qm)))]
noncomputable def Xx (K : W.Frag) : Addr → List D → IOut := VB 5 [0, 1, 2, 3] 0 (XQ K) (XR K)
theorem UP (g : Gr (gd p w B mg mb true)) : UE (gd p w B mg mb true) 3 (.ref 158) 210 ["bells", "steps", "ways"] (Xx (gd p w B mg mb true).K) :=
 Hb g 158 5 [0, 1, 2, 3] 0 210 "self" (f := XQ (gd p w B mg mb true).K) (ts := XR (gd p w B mg mb true).K) (.cons (Kj (Qf.of (cF g 125 (Vj g) (aC (nB 1) Qe))) (fun _ => rfl)) (.cons (Xq (Xv (Xa (Xo (Yk (Qf.of (cB g (.builtin "isinstance") (QN g.ok) (aC (nB 2) (aC (Qf.of (gB g (.type "list"))) Qe)))))) (Xa (Y3 (Qf.of (cB g (.builtin "len") ZN (aC (nB 2) Qe))) (Qf.of (gI g 30 369)) F7) XA))) (Qc (CR g 73 F.excBase_ValueError (vC Xh Ql)) Qh) Qh) (.cons (Xq (Xv (Xa (Xo (Yk (Qf.of (cB g (.builtin "isinstance") (QN g.ok) (aC (nB 3) (aC (Qf.of (gB g (.type "list"))) Qe)))))) (Xa (Xo (chT (Qf.of Qi) (Qf.of (cB g (.builtin "len") ZN (aC (nB 3) Qe))) (Qf.of (gI g 4 371)) WU WU)) XA))) (Qc (CR g 73 F.excBase_ValueError (vC Xh Ql)) Qh) Qh) (.cons (K3 (Zl (Qk (nB 2) (nB 3) Q4)) (tgN 4) (Qc (Kj (Qf.of (cF g 137 (OV g) (aC (nB 1) (aC (nB 4) Qe)))) (fun _ => rfl)) Qh)) .nil)))) (tC (nV 1) (tC (cB g (.type "list") (ZQ rfl) (aC (nB 2) Qe)) (tC (cB g (.type "list") (ZQ rfl) (aC (nB 3) Qe)) .nil))) (Gi fun _ _ _ _ => by kernel_rfl)
noncomputable def WH (K : W.Frag) : AEnv → Res Fl := (Qr (Wd [3, 4] (QV (YX K) (Qa (eOp 0) (Qa (eOp 1) (Qa (eOp 2) Qm))))) (Qr (J3 5 6 (Xc ZH (Qa (eOp 3) Qm)) (Xc ZH (Qa (eOp 4) Qm)) (Wh 210 ["bells", "steps", "ways"] (Xx K) (Qa (eOp 2) (Qa (Qd (Qq QT (eOp 5) (Qd (Qb (.int 0))))) (Qa (Qd (Qq QT (eOp 5) (Qd (Qb (.int 1))))) Qm)))) (Q9 neI (eOp 5) (Qd (XV (Qp (XM 3) (Qp (XM 4) Xd)))))) (Qr (Za (YE (Qp (XM 6) (Qp (XM 3) (Qp (XM 4) Xd))))) QF)))
noncomputable def Yq (K : W.Frag) : List D → FOut := YC 7 [0, 1, 2] (WH K)
theorem KS (g : Gr (gd p w B mg mb true)) : Yd (gd p w B mg mb true) 5 (.ref 273) (Yq (gd p w B mg mb true).K) :=
 fnI g 273 7 [0, 1, 2] (f := WH (gd p w B mg mb true).K) (Qc (GM (nmC 3 (nmC 4 nmN)) (cF g 266 (VX g) (aC (nB 0) (aC (nB 1) (aC (nB 2) Qe))))) (ssM 5 6 (cB g (.type "list") (ZQ rfl) (aC (nB 3) Qe)) (cB g (.type "list") (ZQ rfl) (aC (nB 4) Qe)) (Hl g 210 158 (UP g) (aC (nB 2) (aC (Qf.of (sub (nB 5) (Qf.of Qi))) (aC (Qf.of (sub (nB 5) (Qf.of Qi))) Qe)))) (Y3 (nB 5) (Qf.of (QE (vC (nV 3) (vC (nV 4) Ql)))) Ub) (tnC 5) (tnA 5 (QY (vC Qi Ql))) (Qc (Qv (QY (vC (nV 6) (vC (nV 3) (vC (nV 4) Ql))))) Qh))) (F6 fun _ _ _ => by kernel_rfl)
noncomputable def JD (K : W.Frag) : AEnv → Res Fl := (Qr (Za (Xc ZH (Qa (Qd (Jq 210 "steps" 0)) Qm))) QF)
noncomputable def Zp (K : W.Frag) : List D → FOut := YC 1 [0] (JD K)
theorem Uy (g : Gr (gd p w B mg mb true)) : Yd (gd p w B mg mb true) 1 (.ref 165) (Zp (gd p w B mg mb true).K) :=
 fnI g 165 1 [0] (f := JD (gd p w B mg mb true).K) (Qc (Qv (cB g (.type "list") (ZQ rfl) (aC (Qf.of (atr g 210 0)) Qe))) Qh) (O8 fun _ => by kernel_rfl)
noncomputable def Ju (K : W.Frag) : AEnv → Res Fl := (Qr (Za (Xc ZH (Qa (Qd (Jq 210 "ways" 0)) Qm))) QF)
noncomputable def Zu (K : W.Frag) : List D → FOut := YC 1 [0] (Ju K)
theorem Uw (g : Gr (gd p w B mg mb true)) : Yd (gd p w B mg mb true) 1 (.ref 172) (Zu (gd p w B mg mb true).K) :=
 fnI g 172 1 [0] (f := Ju (gd p w B mg mb true).K) (Qc (Qv (cB g (.type "list") (ZQ rfl) (aC (Qf.of (atr g 210 0)) Qe))) Qh) (O8 fun _ => by kernel_rfl)
noncomputable def JS (K : W.Frag) : AEnv → Res Fl := (Qr (Za (Qq Xg (Qd (Xc YK (Qa (Qd (Jq 210 "steps" 0)) Qm))) (Qd (Qb (.int 1))))) QF)
noncomputable def Yj (K : W.Frag) : List D → FOut := YC 1 [0] (JS K)
theorem O4 (g : Gr (gd p w B mg mb true)) : Yd (gd p w B mg mb true) 1 (.ref 179) (Yj (gd p w B mg mb true).K) :=
 fnI g 179 1 [0] (f := JS (gd p w B mg mb true).K) (Qc (Qv (Qk (Qf.of (cB g (.builtin "len") ZN (aC (Qf.of (atr g 210 0)) Qe))) (Qf.of Qi) Q4)) Qh) (O8 fun _ => by kernel_rfl)
noncomputable def Wu (K : W.Frag) : AEnv → Res Fl := (Qr (VH 5 (JK 210 "inner" 0 (Zp K) Qm) (JK 210 "calls" 0 (Zu K) Qm) (eOr (Q9 neI (Qd (Jq 210 "bells" 0)) (eOp 1)) (eOr (Xm (Qd (Xc (QK K) (Qa (Qd (Jq 210 "bells" 0)) (Qa (Qd (Qb (.glob (.type "bool")))) Qm))))) (eOr (Q9 neI (eOp 5) (Qd (XV (Qp (XM 2) (Qp (XM 3) Xd))))) Zm))) (eOr (Yb (Xm (Qd (Xc (QK K) (Qa (Qd (Qq QT (eOp 5) (Qd (Qb (.int 0))))) (Qa (Qd (Qb (.glob (.type "list")))) Qm)))))) (eOr (Yb (Xm (Qd (Xc (QK K) (Qa (Qd (Qq QT (eOp 5) (Qd (Qb (.int 1))))) (Qa (Qd (Qb (.glob (.type "list")))) Qm)))))) (eOr (Q9 neI (Qd (JK 210 "size" 0 (Yj K) Qm)) (Qd (Qq Xg (Qd (Xc YK (Qa (eOp 2) Qm))) (Qd (Qb (.int 1)))))) Zm)))) (Qr (Qy 6 (XV (Qp (JK 210 "inner" 0 (Zp K) Qm) (Qp (JK 210 "calls" 0 (Zu K) Qm) Xd)))) QF))
noncomputable def WB (K : W.Frag) : AEnv → Res T := (YE (Qp (XM 6) (Qp (XV (Qp (Xc ZH (Qa (eOp 2) Qm)) (Qp (Xc ZH (Qa (eOp 3) Qm)) Xd))) Xd)))
noncomputable def Wx (K : W.Frag) : AEnv → Res Fl := (Qr (Za (Qq eqI (eOp 6) (Qd (XV (Qp (XM 2) (Qp (XM 3) Xd)))))) QF)
noncomputable def Yo (K : W.Frag) : Addr → List D → Option (D × D) := Ec 7 [0, 1, 2, 3, 4] 4 (Wu K) (WB K) (Wx K)
theorem UQ (g : Gr (gd p w B mg mb true)) : VC (gd p w B mg mb true) 2 (.ref 287) (Yo (gd p w B mg mb true).K) :=
 fnO g 287 7 [0, 1, 2, 3, 4] 4 "_law_held" (pre := Wu (gd p w B mg mb true).K) (fe := WB (gd p w B mg mb true).K) (f := Wx (gd p w B mg mb true).K) (spP 5 (mtd g 210 165 0 (Uy g) Qe) (mtd g 210 172 0 (Uw g) Qe) (Xv (Xa (Y3 (Qf.of (atr g 210 0)) (nB 1) Ub) (Xa (Yk (Qf.of (cB g (.builtin "isinstance") (QN g.ok) (aC (Qf.of (atr g 210 0)) (aC (Qf.of (gB g (.type "bool"))) Qe))))) (Xa (Y3 (nB 5) (Qf.of (QE (vC (nV 2) (vC (nV 3) Ql)))) Ub) XA)))) (Xv (Xa (Xo (Yk (Qf.of (cB g (.builtin "isinstance") (QN g.ok) (aC (Qf.of (sub (nB 5) (Qf.of Qi))) (aC (Qf.of (gB g (.type "list"))) Qe)))))) (Xa (Xo (Yk (Qf.of (cB g (.builtin "isinstance") (QN g.ok) (aC (Qf.of (sub (nB 5) (Qf.of Qi))) (aC (Qf.of (gB g (.type "list"))) Qe)))))) (Xa (Y3 (Qf.of (mtd g 210 179 0 (O4 g) Qe)) (Qf.of (Qk (Qf.of (cB g (.builtin "len") ZN (aC (nB 2) Qe))) (Qf.of Qi) Q4)) Ub) XA)))) (tnA 5 (QY (vC Qi Ql))) (tnC 5) (.cons (asg 6 (QE (vC (mtd g 210 165 0 (Uy g) Qe) (vC (mtd g 210 172 0 (Uw g) Qe) Ql)))) .nil)) (QY (vC (nV 6) (vC (QE (vC (cB g (.type "list") (ZQ rfl) (aC (nB 2) Qe)) (vC (cB g (.type "list") (ZQ rfl) (aC (nB 3) Qe)) Ql))) Ql))) (Qc (Qv (Em (nB 6) (Qf.of (QE (vC (nV 2) (vC (nV 3) Ql)))) UW)) Qh) (Gp fun _ _ _ _ _ => by kernel_rfl)
noncomputable def Wz (K : W.Frag) : AEnv → Res Fl := (Qr (Qy 2 (Xc ZH (Qa (eOp 0) Qm))) (Qr (UY (ZB (XM 1)) (XG 3) (Qr (Qy 2 (Qq Xg (Qd (Qq Xg (Qd (ZS (eOp 2) ZA (YT (eOp 3)))) (Qd (XV (Qp (Qq QT (eOp 2) (Qd (Qq Xg (eOp 3) (Qd (Qb (.int 1)))))) (Qp (Qq QT (eOp 2) (eOp 3)) Xd)))))) (Qd (ZS (eOp 2) (YT (Qd (Qq Xg (eOp 3) (Qd (Qb (.int 2)))))) ZA)))) QF)) (Qr (Za (Xc Yz (Qa (eOp 2) Qm))) QF)))
noncomputable def Yp (K : W.Frag) : List D → FOut := YC 4 [0, 1] (Wz K)
theorem KL (g : Gr (gd p w B mg mb true)) : Yd (gd p w B mg mb true) 1 (.ref 249) (Yp (gd p w B mg mb true).K) :=
 fnI g 249 4 [0, 1] (f := Wz (gd p w B mg mb true).K) (Qc (asg 2 (cB g (.type "list") (ZQ rfl) (aC (nB 0) Qe))) (Qc (K3 (Zl (nV 1)) (tgN 3) (Qc (asg 2 (Qk (Qf.of (Qk (Qf.of (ZM (nB 2) Z5 (Zo (nB 3)))) (Qf.of (QE (vC (sub (nB 2) (Qf.of (Qk (nB 3) (Qf.of Qi) Q4))) (vC (sub (nB 2) (nB 3)) Ql)))) Q4)) (Qf.of (ZM (nB 2) (Zo (Qf.of (Qk (nB 3) (Qf.of Qi) Q4))) Z5)) Q4)) Qh)) (Qc (Qv (cB g (.type "tuple") (JF rfl) (aC (nB 2) Qe))) Qh))) (KY fun _ _ => by kernel_rfl)
noncomputable def WF (K : W.Frag) : AEnv → Res Fl := (Qr (Qy 2 (XV (Qp (XM 0) Xd))) (Qr (UY (ZB (XM 1)) (XG 3) (Qr (Zb (Qd (ZP 2 (QV (Yp K) (Qa (Qd (Qq QT (eOp 2) (Qd (Wv Us (Qd (Qb (.int 1))))))) (Qa (eOp 3) Qm)))))) QF)) (Qr (U1 2) QF)))
noncomputable def Ui (K : W.Frag) : List D → FOut := YC 4 [0, 1] (WF K)
theorem B6 (g : Gr (gd p w B mg mb true)) : Yd (gd p w B mg mb true) 2 (.ref 280) (Ui (gd p w B mg mb true).K) :=
 fnI g 280 4 [0, 1] (f := WF (gd p w B mg mb true).K) (Qc (asg 2 (QE (vC (nV 0) Ql))) (Qc (K3 (Zl (nV 1)) (tgN 3) (Qc (exM (Es 2 (J4.of (cF g 249 (KL g) (aC (Qf.of (sub (nB 2) (Qf.of (Zh (Qf.of Qi) UV)))) (aC (nB 3) Qe)))))) Qh)) (Qc (GY 2) Qh))) (KY fun _ _ => by kernel_rfl)
noncomputable def Kq (K : W.Frag) : AEnv → Res Fl := (Qr (Qy 2 (Xc ZH (Qa (eOp 0) Qm))) (Qr (UY (ZB (XM 1)) (XG 3) (Qr (YA 2 (eOp 3) (Qq QT (eOp 0) (Qd (Qq Xg (eOp 3) (Qd (Qb (.int 1))))))) (Qr (YA 2 (Qd (Qq Xg (eOp 3) (Qd (Qb (.int 1))))) (Qq QT (eOp 0) (eOp 3))) QF))) (Qr (Za (Xc Yz (Qa (eOp 2) Qm))) QF)))
noncomputable def Ji (K : W.Frag) : List D → FOut := YC 4 [0, 1] (Kq K)
theorem Os (g : Gr (gd p w B mg mb true)) : Yd (gd p w B mg mb true) 1 (.ref 144) (Ji (gd p w B mg mb true).K) :=
 fnI g 144 4 [0, 1] (f := Kq (gd p w B mg mb true).K) (Qc (asg 2 (cB g (.type "list") (ZQ rfl) (aC (nB 0) Qe))) (Qc (K3 (Zl (nV 1)) (tgN 3) (Qc (G6 2 (nB 3) (sub (nB 0) (Qf.of (Qk (nB 3) (Qf.of Qi) Q4)))) (Qc (G6 2 (Qf.of (Qk (nB 3) (Qf.of Qi) Q4)) (sub (nB 0) (nB 3))) Qh))) (Qc (Qv (cB g (.type "tuple") (JF rfl) (aC (nB 2) Qe))) Qh))) (KY fun _ _ => by kernel_rfl)
noncomputable def UX (K : W.Frag) : AEnv → Res Fl := (Qr (sIf (eOr (Yb (Xm (Qd (Xc (QK K) (Qa (eOp 0) (Qa (Qd (Qb (.glob (.type "tuple")))) Qm)))))) (eOr (Yb (Y7 leI leI (Qd (Qb (.int 3))) (Qd (Xc YK (Qa (eOp 0) Qm))) (Qd (Qb (.int 12))))) Zm)) (Qr (Za (Qb (.bool false))) QF) QF) (Qr (sIf (Yb (Xm (Qd (Xc DD (Qa (Qd (JW [none, none] (ZB (XM 0)) (XG 1) Bc (QV (Zj K) (Qa (eOp 1) Qm)))) Qm))))) (Qr (Za (Qb (.bool false))) QF) QF) (Qr (Za (Qq eqI (Qd (Xc Oc (Qa (eOp 0) Qm))) (Qd (Xc ZH (Qa (Qd (Xc YI (Qa (Qd (Xc YK (Qa (eOp 0) Qm))) Qm))) Qm))))) QF)))
noncomputable def ZE (K : W.Frag) : List D → FOut := YC 1 [0] (UX K)
theorem Eb (g : Gr (gd p w B mg mb true)) : Yd (gd p w B mg mb true) 2 (.ref 130) (ZE (gd p w B mg mb true).K) :=
 fnI g 130 1 [0] (f := UX (gd p w B mg mb true).K) (Qc (Xq (Xv (Xa (Xo (Yk (Qf.of (cB g (.builtin "isinstance") (QN g.ok) (aC (nB 0) (aC (Qf.of (gB g (.type "tuple"))) Qe)))))) (Xa (Xo (chT (Qf.of (gI g 3 321)) (Qf.of (cB g (.builtin "len") ZN (aC (nB 0) Qe))) (Qf.of (gI g 12 323)) WU WU)) XA))) (Qc (Qv XT) Qh) Qh) (Qc (Xq (Xo (Yk (Qf.of (cB g (.builtin "all") (EI rfl) (aC (Qf.of (lc [none, none] (Zl (nV 0)) (tgN 1) Kh (cF g 118 (JQ g) (aC (nB 1) Qe)))) Qe))))) (Qc (Qv XT) Qh) Qh) (Qc (Qv (Em (Qf.of (cB g (.builtin "sorted") Du (aC (nB 0) Qe))) (Qf.of (cB g (.type "list") (ZQ rfl) (aC (Qf.of (cB g (.type "range") JB (aC (Qf.of (cB g (.builtin "len") ZN (aC (nB 0) Qe))) Qe))) Qe))) UW)) Qh))) (O8 fun _ => by kernel_rfl)
noncomputable def X7 (K : W.Frag) : AEnv → Res Fl := (Qr (sIf (eOr (Yb (Xm (Qd (QV (ZE K) (Qa (eOp 1) Qm))))) (eOr (Q9 neI (Qd (Xc YK (Qa (eOp 1) Qm))) (Qd (Jq 210 "bells" 0))) Zm)) (Qr (Jv 49 (Qp (Qb (.str "no row of the method's bells")) Xd)) QF) QF) QF)
noncomputable def QH (K : W.Frag) : List D → FOut := YC 2 [0, 1] (X7 K)
theorem U9 (g : Gr (gd p w B mg mb true)) : Yd (gd p w B mg mb true) 3 (.ref 186) (QH (gd p w B mg mb true).K) :=
 fnI g 186 2 [0, 1] (f := X7 (gd p w B mg mb true).K) (Qc (Xq (Xv (Xa (Xo (Yk (Qf.of (cF g 130 (Eb g) (aC (nB 1) Qe))))) (Xa (Y3 (Qf.of (cB g (.builtin "len") ZN (aC (nB 1) Qe))) (Qf.of (atr g 210 0)) Ub) XA))) (Qc (CR g 49 F.excBase_ValueError (vC Xh Ql)) Qh) Qh) Qh) (KY fun _ _ => by kernel_rfl)
noncomputable def YQ (K : W.Frag) : AEnv → Res Fl := (Qr (Zb (Qd (JK 210 "need_head" 0 (QH K) (Qa (eOp 1) Qm)))) (Qr (Qy 2 (XV (Qp (XM 1) Xd))) (Qr (UY (ZB (Jq 210 "steps" 0)) (XG 3) (Qr (Zb (Qd (ZP 2 (QV (Ji K) (Qa (Qd (Qq QT (eOp 2) (Qd (Wv Us (Qd (Qb (.int 1))))))) (Qa (eOp 3) Qm)))))) QF)) (Qr (U1 2) QF))))
noncomputable def XI (K : W.Frag) : List D → FOut := YC 4 [0, 1] (YQ K)
theorem Z1 (g : Gr (gd p w B mg mb true)) : Yd (gd p w B mg mb true) 4 (.ref 200) (XI (gd p w B mg mb true).K) :=
 fnI g 200 4 [0, 1] (f := YQ (gd p w B mg mb true).K) (Qc (exM (J4.of (mtd g 210 186 0 (U9 g) (aC (nB 1) Qe)))) (Qc (asg 2 (QE (vC (nV 1) Ql))) (Qc (K3 (Zl (atr g 210 0)) (tgN 3) (Qc (exM (Es 2 (J4.of (cF g 144 (Os g) (aC (Qf.of (sub (nB 2) (Qf.of (Zh (Qf.of Qi) UV)))) (aC (nB 3) Qe)))))) Qh)) (Qc (GY 2) Qh)))) (KY fun _ _ => by kernel_rfl)
noncomputable def Zx (K : W.Frag) : AEnv → Res Fl := (Qr (sIf (eOr (Yb (Xm (Qd (QV (Zj K) (Qa (eOp 1) Qm))))) (eOr (Yb (Y7 leI ltI (Qd (Qb (.int 0))) (eOp 1) (Qd (Xc YK (Qa (Qd (Jq 210 "ways" 0)) Qm))))) Zm)) (Qr (Jv 85 (Qp (Qb (.str "no number of a call")) Xd)) QF) QF) QF)
noncomputable def Xr (K : W.Frag) : List D → FOut := YC 2 [0, 1] (Zx K)
theorem Wb (g : Gr (gd p w B mg mb true)) : Yd (gd p w B mg mb true) 2 (.ref 193) (Xr (gd p w B mg mb true).K) :=
 fnI g 193 2 [0, 1] (f := Zx (gd p w B mg mb true).K) (Qc (Xq (Xv (Xa (Xo (Yk (Qf.of (cF g 118 (JQ g) (aC (nB 1) Qe))))) (Xa (Xo (chT (Qf.of Qi) (nB 1) (Qf.of (cB g (.builtin "len") ZN (aC (Qf.of (atr g 210 0)) Qe))) WU Dd)) XA))) (Qc (CR g 85 F.excBase_ValueError (vC Xh Ql)) Qh) Qh) Qh) (KY fun _ _ => by kernel_rfl)
noncomputable def ZW (K : W.Frag) : AEnv → Res Fl := (Qr (Qy 3 (JK 210 "lead" 0 (XI K) (Qa (eOp 1) Qm))) (Qr (Zb (Qd (JK 210 "need_call" 0 (Xr K) (Qa (eOp 2) Qm)))) (Qr (Za (QV (Ji K) (Qa (Qd (Qq QT (eOp 3) (Qd (Wv Us (Qd (Qb (.int 1))))))) (Qa (Qd (Qq QT (Qd (Jq 210 "ways" 0)) (eOp 2))) Qm)))) QF)))
noncomputable def Xu (K : W.Frag) : List D → FOut := YC 4 [0, 1, 2] (ZW K)
theorem Uz (g : Gr (gd p w B mg mb true)) : Yd (gd p w B mg mb true) 5 (.ref 207) (Xu (gd p w B mg mb true).K) :=
 fnI g 207 4 [0, 1, 2] (f := ZW (gd p w B mg mb true).K) (Qc (asg 3 (mtd g 210 200 0 (Z1 g) (aC (nB 1) Qe))) (Qc (exM (J4.of (mtd g 210 193 0 (Wb g) (aC (nB 2) Qe)))) (Qc (Qv (cF g 144 (Os g) (aC (Qf.of (sub (nB 3) (Qf.of (Zh (Qf.of Qi) UV)))) (aC (Qf.of (sub (Qf.of (atr g 210 0)) (nB 2))) Qe)))) Qh))) (F6 fun _ _ _ => by kernel_rfl)
noncomputable def YY (K : W.Frag) : AEnv → Res Fl := (Qr (Qy 5 (V2 (QV (Ui K) (Qa (eOp 3) (Qa (eOp 1) Qm))))) (Qr (Qy 6 (JK 210 "lead" 0 (XI K) (Qa (eOp 3) Qm))) (Qr (sIf (eOr (Yb (Xm (Qd (Xc (QK K) (Qa (eOp 6) (Qa (Qd (Qb (.glob (.type "list")))) Qm)))))) (eOr (Q9 neI (eOp 6) (eOp 5)) (eOr (Yb (Xm (Qd (Xc DD (Qa (Qd (JW [none, none] (ZB (XM 6)) (XG 1) Bc (Xc (QK K) (Qa (eOp 1) (Qa (Qd (Qb (.glob (.type "tuple")))) Qm))))) Qm))))) Zm))) (Qr (Za (Qb (.bool false))) QF) QF) QF)))
noncomputable def Y1 (K : W.Frag) : AEnv → Res T := (YE (Qp (XM 6) (Qp (Xc ZH (Qa (eOp 5) Qm)) Xd)))
noncomputable def YZ (K : W.Frag) : AEnv → Res Fl := (Qr (UY (ZB (Xc YI (Qa (Qd (Xc YK (Qa (eOp 2) Qm))) Qm))) (XG 7) (Qr (Qy 8 (JK 210 "after" 0 (Xu K) (Qa (eOp 3) (Qa (eOp 7) Qm)))) (Qr (sIf (eOr (Yb (Xm (Qd (Xc (QK K) (Qa (eOp 8) (Qa (Qd (Qb (.glob (.type "tuple")))) Qm)))))) (eOr (Q9 neI (eOp 8) (Qd (QV (Yp K) (Qa (Qd (Qq QT (eOp 5) (Qd (Wv Us (Qd (Qb (.int 1))))))) (Qa (Qd (Qq QT (eOp 2) (eOp 7))) Qm))))) Zm)) (Qr (Za (Qb (.bool false))) QF) QF) QF))) (Qr (Qy 9 (JK 210 "lead" 0 (XI K) (Qa (eOp 3) Qm))) (Qr (Zb (Qd (Bf 9))) (Qr (Za (Qq eqI (Qd (JK 210 "lead" 0 (XI K) (Qa (eOp 3) Qm))) (eOp 5))) QF))))
noncomputable def ZG (K : W.Frag) : Addr → List D → Option (D × D) := Ec 10 [0, 1, 2, 3, 4] 4 (YY K) (Y1 K) (YZ K)
theorem KF (g : Gr (gd p w B mg mb true)) : VC (gd p w B mg mb true) 6 (.ref 292) (ZG (gd p w B mg mb true).K) :=
 fnO g 292 10 [0, 1, 2, 3, 4] 4 "_law_held" (pre := YY (gd p w B mg mb true).K) (fe := Y1 (gd p w B mg mb true).K) (f := YZ (gd p w B mg mb true).K) (.cons (asg 5 (Dy (cF g 280 (B6 g) (aC (nB 3) (aC (nB 1) Qe))))) (.cons (asg 6 (mtd g 210 200 0 (Z1 g) (aC (nB 3) Qe))) (.cons (Xq (Xv (Xa (Xo (Yk (Qf.of (cB g (.builtin "isinstance") (QN g.ok) (aC (nB 6) (aC (Qf.of (gB g (.type "list"))) Qe)))))) (Xa (Y3 (nB 6) (nB 5) Ub) (Xa (Xo (Yk (Qf.of (cB g (.builtin "all") (EI rfl) (aC (Qf.of (lc [none, none] (Zl (nV 6)) (tgN 1) Kh (cB g (.builtin "isinstance") (QN g.ok) (aC (nB 1) (aC (Qf.of (gB g (.type "tuple"))) Qe))))) Qe))))) XA)))) (Qc (Qv XT) Qh) Qh) .nil))) (QY (vC (nV 6) (vC (cB g (.type "list") (ZQ rfl) (aC (nB 5) Qe)) Ql))) (Qc (K3 (Zl (cB g (.type "range") JB (aC (Qf.of (cB g (.builtin "len") ZN (aC (nB 2) Qe))) Qe))) (tgN 7) (Qc (asg 8 (mtd g 210 207 0 (Uz g) (aC (nB 3) (aC (nB 7) Qe)))) (Qc (Xq (Xv (Xa (Xo (Yk (Qf.of (cB g (.builtin "isinstance") (QN g.ok) (aC (nB 8) (aC (Qf.of (gB g (.type "tuple"))) Qe)))))) (Xa (Y3 (nB 8) (Qf.of (cF g 249 (KL g) (aC (Qf.of (sub (nB 5) (Qf.of (Zh (Qf.of Qi) UV)))) (aC (Qf.of (sub (nB 2) (nB 7))) Qe)))) Ub) XA))) (Qc (Qv XT) Qh) Qh) Qh))) (Qc (asg 9 (mtd g 210 200 0 (Z1 g) (aC (nB 3) Qe))) (Qc (exM (Hn 9)) (Qc (Qv (Em (Qf.of (mtd g 210 200 0 (Z1 g) (aC (nB 3) Qe))) (nB 5) UW)) Qh)))) (Gp fun _ _ _ _ _ => by kernel_rfl)
noncomputable def WC (K : W.Frag) : AEnv → Res Fl := (Qr (Qy 1 (XV (Qp (YE (Qp (Qb (.str "bells")) (Qp (Xc (QK K) (Qa (eOp 0) (Qa (Qd (Qb (.glob (.ref 37)))) Qm))) Xd))) (Qp (YE (Qp (Qb (.str "row")) (Qp (Xc (QK K) (Qa (eOp 0) (Qa (Qd (Qb (.glob (.ref 49)))) Qm))) Xd))) (Qp (YE (Qp (Qb (.str "change")) (Qp (Xc (QK K) (Qa (eOp 0) (Qa (Qd (Qb (.glob (.ref 61)))) Qm))) Xd))) Xd))))) (Qr (Qy 1 (Qq Xg (eOp 1) (Qd (XV (Qp (YE (Qp (Qb (.str "method")) (Qp (Xc (QK K) (Qa (eOp 0) (Qa (Qd (Qb (.glob (.ref 73)))) Qm))) Xd))) (Qp (YE (Qp (Qb (.str "call")) (Qp (Xc (QK K) (Qa (eOp 0) (Qa (Qd (Qb (.glob (.ref 85)))) Qm))) Xd))) Xd)))))) (Qr (Qy 1 (Qq Xg (eOp 1) (Qd (XV (Qp (YE (Qp (Qb (.str "count")) (Qp (Xc (QK K) (Qa (eOp 0) (Qa (Qd (Qb (.glob (.ref 97)))) Qm))) Xd))) (Qp (YE (Qp (Qb (.str "text")) (Qp (Xc (QK K) (Qa (eOp 0) (Qa (Qd (Qb (.glob (.ref 109)))) Qm))) Xd))) Xd)))))) (Qr (Qy 2 (JW [none, none, none, some 0] (ZB (XM 1)) (Y6 [1, 2]) (KI (Xm (eOp 2)) (KI (Xm (Qd (Xc (QK K) (Qa (eOp 3) (Qa (Qd (Qb (.glob (.type "ValueError")))) Qm))))) Ul)) (XM 1))) (Qr (sIf (Q9 eqI (Qd (Xc YK (Qa (eOp 2) Qm))) (Qd (Qb (.int 1)))) (Qr (Za (XV (Qp (Qb (.str "refused")) (Qp (Qq QT (eOp 2) (Qd (Qb (.int 0)))) Xd)))) QF) QF) (Qr (Za (XV (Qp (Qb (.str "refused")) (Qp (Qb (.str "otherwise")) Xd)))) QF))))))
noncomputable def Yn (K : W.Frag) : List D → FOut := YC 3 [0] (WC K)
theorem Bw (g : Gr (gd p w B mg mb false)) : Yd (gd p w B mg mb false) 1 (.ref 254) (Yn (gd p w B mg mb false).K) :=
 fnI g 254 3 [0] (f := WC (gd p w B mg mb false).K) (Qc (asg 1 (QE (vC (QY (vC Xh (vC (cB g (.builtin "isinstance") (QN g.ok) (aC (nB 0) (aC (Qf.of (gF g 37)) Qe))) Ql))) (vC (QY (vC Xh (vC (cB g (.builtin "isinstance") (QN g.ok) (aC (nB 0) (aC (Qf.of (gF g 49)) Qe))) Ql))) (vC (QY (vC Xh (vC (cB g (.builtin "isinstance") (QN g.ok) (aC (nB 0) (aC (Qf.of (gF g 61)) Qe))) Ql))) Ql))))) (Qc (asg 1 (Qk (nB 1) (Qf.of (QE (vC (QY (vC Xh (vC (cB g (.builtin "isinstance") (QN g.ok) (aC (nB 0) (aC (Qf.of (gF g 73)) Qe))) Ql))) (vC (QY (vC Xh (vC (cB g (.builtin "isinstance") (QN g.ok) (aC (nB 0) (aC (Qf.of (gF g 85)) Qe))) Ql))) Ql)))) Q4)) (Qc (asg 1 (Qk (nB 1) (Qf.of (QE (vC (QY (vC Xh (vC (cB g (.builtin "isinstance") (QN g.ok) (aC (nB 0) (aC (Qf.of (gF g 97)) Qe))) Ql))) (vC (QY (vC Xh (vC (cB g (.builtin "isinstance") (QN g.ok) (aC (nB 0) (aC (Qf.of (gF g 109)) Qe))) Ql))) Ql)))) Q4)) (Qc (GL 2 [none, none, none, some 0] (Zl (nV 1)) (GO 1 2) (Vx (Xv (U3 (G5 (nB 2)) (U3 (Yk (Qf.of (cB g (.builtin "isinstance") (QN g.ok) (aC (nB 3) (aC (Qf.of (gB g (.type "ValueError"))) Qe))))) Wf)))) (nV 1)) (Qc (Xq (Y3 (Qf.of (cB g (.builtin "len") ZN (aC (nB 2) Qe))) (Qf.of Qi) UW) (Qc (Qv (QE (vC Xh (vC (sub (nB 2) (Qf.of Qi)) Ql)))) Qh) Qh) (Qc (Qv (QE (vC Xh (vC Xh Ql)))) Qh)))))) (O8 fun _ => by kernel_rfl)
noncomputable def Jp (K : W.Frag) : AEnv → Res Fl := (Qr (DV K 24 4 (Qr (sIf (Q9 eqI (eOp 0) (Qd (Qb (.int 0)))) (Qr (Zb (Qd (Wh 210 ["bells", "steps", "ways"] (Xx K) (Qa (eOp 1) (Qa (eOp 2) (Qa (eOp 3) Qm)))))) QF) (Qr (sIf (Q9 eqI (eOp 0) (Qd (Qb (.int 1)))) (Qr (Zb (Qd (JK 210 "lead" 1 (XI K) (Qa (eOp 2) Qm)))) QF) (Qr (Zb (Qd (JK 210 "after" 1 (Xu K) (Qa (eOp 2) (Qa (eOp 3) Qm))))) QF)) QF)) QF) (Qr (Za (QV (Yn K) (Qa (eOp 4) Qm))) QF)) (Qr (Za (XV (Qp (Qb (.str "told")) Xd))) QF))
noncomputable def QU (K : W.Frag) : List D → FOut := YC 5 [0, 1, 2, 3] (Jp K)
theorem Ys (g : Gr (gd p w B mg mb true)) : Yd (gd p w B mg mb true) 6 (.ref 299) (QU (gd p w B mg mb true).K) :=
 fnI g 299 5 [0, 1, 2, 3] (f := Jp (gd p w B mg mb true).K) (Qc (Hc g 24 4 (Qc (Xq (Y3 (nB 0) (Qf.of Qi) UW) (Qc (Kj (Qf.of (mak g 210 158 (UP g) (aC (nB 1) (aC (nB 2) (aC (nB 3) Qe))))) (fun _ => rfl)) Qh) (Qc (Xq (Y3 (nB 0) (Qf.of Qi) UW) (Qc (exM (J4.of (mtd g 210 200 1 (Z1 g) (aC (nB 2) Qe)))) Qh) (Qc (exM (J4.of (mtd g 210 207 1 (Uz g) (aC (nB 2) (aC (nB 3) Qe))))) Qh)) Qh)) Qh) (Qc (Qv (cF g.loud 254 (Bw g.loud) (aC (nB 4) Qe))) Qh)) (Qc (Qv (QE (vC Xh Ql))) Qh)) (Gi fun _ _ _ _ => by kernel_rfl)
noncomputable def JX (K : W.Frag) : AEnv → Res Fl := (Qr (Qy 5 (Qq QT (Qd (XV (Qp (YE (Qp (Qq Oy (eOp 1) (Qd (Qb (.int 1)))) Xd)) (Qp (Qb .none) (Qp (YE Xd) (Qp (YE (Qp (Qb (.int 0)) (Qp (Qb (.int 1)) Xd))) (Qp (XV (Qp (Qb (.int 0)) Xd)) (Qp (YE (Qp (Wv Us (Qd (Qb (.int 1)))) Xd)) (Qp (YE (Qp (Qb (.str "0")) Xd)) (Qp (YE (Qp (Qb (.bool true)) Xd)) Xd)))))))))) (Qd (Qq X4 (eOp 4) (Qd (Qb (.int 8))))))) (Qr (Qy 6 (Qq X4 (Qd (Qq YW (eOp 4) (Qd (Qb (.int 8))))) (Qd (Qq Xg (Qd (Xc YK (Qa (eOp 2) Qm))) (Qd (Qb (.int 1))))))) (Qr (Qy 7 (Qq Xg (Qd (Qq Xg (Qd (ZS (eOp 2) ZA (YT (eOp 6)))) (Qd (XV (Qp (XM 5) Xd))))) (Qd (ZS (eOp 2) (YT (eOp 6)) ZA)))) (Qr (Qy 8 (Qq X4 (Qd (Qq YW (eOp 4) (Qd (Qb (.int 300))))) (Qd (Xc YK (Qa (eOp 3) Qm))))) (Qr (Qy 9 (Qq Xg (Qd (Qq Xg (Qd (ZS (eOp 3) ZA (YT (eOp 8)))) (Qd (XV (Qp (XM 5) Xd))))) (Qd (ZS (eOp 3) (YT (Qd (Qq Xg (eOp 8) (Qd (Qb (.int 1)))))) ZA)))) (Qr (Qy 10 (Qq QT (Qd (XV (Qp (Qb .none) (Qp (Xc Yz (Qa (eOp 2) Qm)) (Qp (Qb (.int 5)) (Qp (Qq Wr (Qd (XV (Qp (YE (Qp (Qb (.int 0)) Xd)) Xd))) (Qd (Qb (.int 31)))) Xd)))))) (Qd (Qq X4 (Qd (Qq YW (eOp 4) (Qd (Qb (.int 8))))) (Qd (Qb (.int 4))))))) (Qr (Qy 11 (Qq QT (Qd (XV (Qp (Qb .none) (Qp (Xc Yz (Qa (eOp 3) Qm)) (Qp (XV Xd) (Qp (Qq Wr (Qd (XV (Qp (YE (Qp (Qb (.int 0)) Xd)) Xd))) (Qd (Qb (.int 5)))) Xd)))))) (Qd (Qq X4 (Qd (Qq YW (eOp 4) (Qd (Qb (.int 8))))) (Qd (Qb (.int 4))))))) (Qr (sIf (Q9 neI (Qd (QV (QU K) (Qa (Qd (Qb (.int 0))) (Qa (Qd (Qq QT (Qd (XV (Qp (Qb (.int 2)) (Qp (Qb (.int 13)) (Qp (Qb .none) (Qp (Qb (.bool true)) Xd)))))) (Qd (Qq X4 (eOp 4) (Qd (Qb (.int 4))))))) (Qa (eOp 10) (Qa (eOp 11) Qm)))))) (Qd (XV (Qp (Qb (.str "refused")) (Qp (Qb (.str "bells")) Xd))))) (Qr (Za (Qb (.bool false))) QF) QF) (Qr (Qy 12 (XV (Qp (YE (Qp (XM 10) (Qp (XM 3) Xd))) (Qp (YE (Qp (XM 2) (Qp (XM 11) Xd))) (Qp (YE (Qp (XM 10) (Qp (XM 11) Xd))) Xd))))) (Qr (UY (ZB (Qq Xg (eOp 12) (Qd (XV (Qp (YE (Qp (XM 10) (Qp (XM 9) Xd))) (Qp (YE (Qp (XM 7) (Qp (XM 11) Xd))) Xd)))))) (XG 13) (Qr (sIf (Q9 neI (Qd (QV (QU K) (Qa (Qd (Qb (.int 0))) (Qa (eOp 1) (Qa (Qd (Qq QT (eOp 13) (Qd (Qb (.int 0))))) (Qa (Qd (Qq QT (eOp 13) (Qd (Qb (.int 1))))) Qm)))))) (Qd (XV (Qp (Qb (.str "refused")) (Qp (Qb (.str "method")) Xd))))) (Qr (Za (Qb (.bool false))) QF) QF) QF)) (Qr (sIf (KI (Q9 ltI (Qd (Xc YK (Qa (eOp 2) Qm))) (Qd (Qb (.int 30)))) (KI (Q9 neI (Qd (QV (QU K) (Qa (Qd (Qb (.int 0))) (Qa (eOp 1) (Qa (eOp 7) (Qa (eOp 3) Qm)))))) (Qd (XV (Qp (Qb (.str "refused")) (Qp (Qb (.str "change")) Xd))))) Ul)) (Qr (Za (Qb (.bool false))) QF) QF) (Qr (Qy 14 (QV (Jj K) (Qa (eOp 4) (Qa (eOp 1) Qm)))) (Qr (Qy 15 (Qq Xg (Qd (ZS (eOp 14) ZA (YT (Qd (Wv Us (Qd (Qb (.int 1)))))))) (Qd (ZS (eOp 14) ZA (YT (Qd (Qb (.int 1)))))))) (Qr (Qy 16 (Qq QT (Qd (XV (Qp (Xc ZH (Qa (eOp 14) Qm)) (Qp (Qb .none) (Qp (ZS (eOp 14) (YT (Qd (Qb (.int 1)))) ZA) (Qp (XM 15) (Qp (Xc Yz (Qa (Qd (Xc YI (Qa (Qd (Qq Xg (eOp 1) (Qd (Qb (.int 1))))) Qm))) Qm)) Xd))))))) (Qd (Qq X4 (eOp 4) (Qd (Qb (.int 5))))))) (Qr (Qy 17 (Qq QT (Qd (XV (Qp (Wv Us (Qd (Qb (.int 1)))) (Qp (Xc YK (Qa (eOp 3) Qm)) (Qp (Qb (.bool true)) (Qp (Qb .none) (Qp (Qb (.str "0")) (Qp (Qq Xg (Qd (Xc YK (Qa (eOp 3) Qm))) (eOp 4)) Xd)))))))) (Qd (Qq X4 (eOp 4) (Qd (Qb (.int 6))))))) (Qr (sIf (Q9 neI (Qd (QV (QU K) (Qa (Qd (Qb (.int 0))) (Qa (eOp 1) (Qa (eOp 2) (Qa (eOp 9) Qm)))))) (Qd (XV (Qp (Qb (.str "refused")) (Qp (Qb (.str "change")) Xd))))) (Qr (Za (Qb (.bool false))) QF) QF) (Qr (UY (ZB (YE (Qp (Qb (.int 1)) (Qp (Qb (.int 2)) Xd)))) (XG 18) (Qr (sIf (Q9 neI (Qd (QV (QU K) (Qa (eOp 18) (Qa (eOp 0) (Qa (eOp 16) (Qa (eOp 17) Qm)))))) (Qd (XV (Qp (Qb (.str "refused")) (Qp (Qb (.str "row")) Xd))))) (Qr (Za (Qb (.bool false))) QF) QF) QF)) (Qr (Za (Qq eqI (Qd (QV (QU K) (Qa (Qd (Qb (.int 2))) (Qa (eOp 0) (Qa (eOp 14) (Qa (eOp 17) Qm)))))) (Qd (XV (Qp (Qb (.str "refused")) (Qp (Qb (.str "call")) Xd)))))) QF))))))))))))))))))
noncomputable def YN (K : W.Frag) : List D → FOut := YC 19 [0, 1, 2, 3, 4] (JX K)
theorem O5 (g : Gr (gd p w B mg mb true)) : Yd (gd p w B mg mb true) 7 (.ref 306) (YN (gd p w B mg mb true).K) :=
 fnI g 306 19 [0, 1, 2, 3, 4] (f := JX (gd p w B mg mb true).K) (Qc (asg 5 (sub (Qf.of (QE (vC (QY (vC (Qk (nB 1) (Qf.of Qi) VO) Ql)) (vC Jy (vC (QY Ql) (vC (QY (vC Qi (vC Qi Ql))) (vC (QE (vC Qi Ql)) (vC (QY (vC (Zh (Qf.of Qi) UV) Ql)) (vC (QY (vC Xh Ql)) (vC (QY (vC XT Ql)) Ql)))))))))) (Qf.of (Qk (nB 4) (Qf.of Qi) Zk)))) (Qc (asg 6 (Qk (Qf.of (Qk (nB 4) (Qf.of Qi) Y0)) (Qf.of (Qk (Qf.of (cB g (.builtin "len") ZN (aC (nB 2) Qe))) (Qf.of Qi) Q4)) Zk)) (Qc (asg 7 (Qk (Qf.of (Qk (Qf.of (ZM (nB 2) Z5 (Zo (nB 6)))) (Qf.of (QE (vC (nV 5) Ql))) Q4)) (Qf.of (ZM (nB 2) (Zo (nB 6)) Z5)) Q4)) (Qc (asg 8 (Qk (Qf.of (Qk (nB 4) (Qf.of Qi) Y0)) (Qf.of (cB g (.builtin "len") ZN (aC (nB 3) Qe))) Zk)) (Qc (asg 9 (Qk (Qf.of (Qk (Qf.of (ZM (nB 3) Z5 (Zo (nB 8)))) (Qf.of (QE (vC (nV 5) Ql))) Q4)) (Qf.of (ZM (nB 3) (Zo (Qf.of (Qk (nB 8) (Qf.of Qi) Q4))) Z5)) Q4)) (Qc (asg 10 (sub (Qf.of (QE (vC Jy (vC (cB g (.type "tuple") (JF rfl) (aC (nB 2) Qe)) (vC Qi (vC (Qk (Qf.of (QE (vC (QY (vC Qi Ql)) Ql))) (Qf.of Qi) U2) Ql)))))) (Qf.of (Qk (Qf.of (Qk (nB 4) (Qf.of Qi) Y0)) (Qf.of Qi) Zk)))) (Qc (asg 11 (sub (Qf.of (QE (vC Jy (vC (cB g (.type "tuple") (JF rfl) (aC (nB 3) Qe)) (vC (QE Ql) (vC (Qk (Qf.of (QE (vC (QY (vC Qi Ql)) Ql))) (Qf.of Qi) U2) Ql)))))) (Qf.of (Qk (Qf.of (Qk (nB 4) (Qf.of Qi) Y0)) (Qf.of Qi) Zk)))) (Qc (Xq (Y3 (Qf.of (cF g 299 (Ys g) (aC (Qf.of Qi) (aC (Qf.of (sub (Qf.of (QE (vC Qi (vC Qi (vC Jy (vC XT Ql)))))) (Qf.of (Qk (nB 4) (Qf.of Qi) Zk)))) (aC (nB 10) (aC (nB 11) Qe)))))) (Qf.of (QE (vC Xh (vC Xh Ql)))) Ub) (Qc (Qv XT) Qh) Qh) (Qc (asg 12 (QE (vC (QY (vC (nV 10) (vC (nV 3) Ql))) (vC (QY (vC (nV 2) (vC (nV 11) Ql))) (vC (QY (vC (nV 10) (vC (nV 11) Ql))) Ql))))) (Qc (K3 (Zl (Qk (nB 12) (Qf.of (QE (vC (QY (vC (nV 10) (vC (nV 9) Ql))) (vC (QY (vC (nV 7) (vC (nV 11) Ql))) Ql)))) Q4)) (tgN 13) (Qc (Xq (Y3 (Qf.of (cF g 299 (Ys g) (aC (Qf.of Qi) (aC (nB 1) (aC (Qf.of (sub (nB 13) (Qf.of Qi))) (aC (Qf.of (sub (nB 13) (Qf.of Qi))) Qe)))))) (Qf.of (QE (vC Xh (vC Xh Ql)))) Ub) (Qc (Qv XT) Qh) Qh) Qh)) (Qc (Xq (Xv (U3 (Y3 (Qf.of (cB g (.builtin "len") ZN (aC (nB 2) Qe))) (Qf.of Qi) Dd) (U3 (Y3 (Qf.of (cF g 299 (Ys g) (aC (Qf.of Qi) (aC (nB 1) (aC (nB 7) (aC (nB 3) Qe)))))) (Qf.of (QE (vC Xh (vC Xh Ql)))) Ub) Wf))) (Qc (Qv XT) Qh) Qh) (Qc (asg 14 (cF g 235 (O3 g) (aC (nB 4) (aC (nB 1) Qe)))) (Qc (asg 15 (Qk (Qf.of (ZM (nB 14) Z5 (Zo (Qf.of (Zh (Qf.of Qi) UV))))) (Qf.of (ZM (nB 14) Z5 (Zo (Qf.of Qi)))) Q4)) (Qc (asg 16 (sub (Qf.of (QE (vC (cB g (.type "list") (ZQ rfl) (aC (nB 14) Qe)) (vC Jy (vC (ZM (nB 14) (Zo (Qf.of Qi)) Z5) (vC (nV 15) (vC (cB g (.type "tuple") (JF rfl) (aC (Qf.of (cB g (.type "range") JB (aC (Qf.of (Qk (nB 1) (Qf.of Qi) Q4)) Qe))) Qe)) Ql))))))) (Qf.of (Qk (nB 4) (Qf.of Qi) Zk)))) (Qc (asg 17 (sub (Qf.of (QE (vC (Zh (Qf.of Qi) UV) (vC (cB g (.builtin "len") ZN (aC (nB 3) Qe)) (vC XT (vC Jy (vC Xh (vC (Qk (Qf.of (cB g (.builtin "len") ZN (aC (nB 3) Qe))) (nB 4) Q4) Ql)))))))) (Qf.of (Qk (nB 4) (Qf.of Qi) Zk)))) (Qc (Xq (Y3 (Qf.of (cF g 299 (Ys g) (aC (Qf.of Qi) (aC (nB 1) (aC (nB 2) (aC (nB 9) Qe)))))) (Qf.of (QE (vC Xh (vC Xh Ql)))) Ub) (Qc (Qv XT) Qh) Qh) (Qc (K3 (Zl (QY (vC Qi (vC Qi Ql)))) (tgN 18) (Qc (Xq (Y3 (Qf.of (cF g 299 (Ys g) (aC (nB 18) (aC (nB 0) (aC (nB 16) (aC (nB 17) Qe)))))) (Qf.of (QE (vC Xh (vC Xh Ql)))) Ub) (Qc (Qv XT) Qh) Qh) Qh)) (Qc (Qv (Em (Qf.of (cF g 299 (Ys g) (aC (Qf.of Qi) (aC (nB 0) (aC (nB 14) (aC (nB 17) Qe)))))) (Qf.of (QE (vC Xh (vC Xh Ql)))) UW)) Qh)))))))))))))))))) (Gp fun _ _ _ _ _ => by kernel_rfl)
noncomputable def Fk (K : W.Frag) : AEnv → Res Fl := (Qr (Qy 1 (XV (Qp (Qq Xg (Qd (Qb (.int 3))) (Qd (Qq X4 (Qd (QV (XO K) (Qa (eOp 0) (Qa (Qd (Qb (.int 0))) Qm)))) (Qd (Qb (.int 10)))))) (Qp (Qq Xg (Qd (Qb (.int 3))) (Qd (Qq X4 (Qd (Qq YW (Qd (QV (XO K) (Qa (eOp 0) (Qa (Qd (Qb (.int 0))) Qm)))) (Qd (Qb (.int 10))))) (Qd (Qb (.int 10)))))) Xd)))) (Qr (Qy 2 (XV (Qp (QV (Yq K) (Qa (eOp 0) (Qa (Qd (Qb (.int 1))) (Qa (Qd (Qq QT (eOp 1) (Qd (Qb (.int 0))))) Qm)))) (Qp (QV (Yq K) (Qa (eOp 0) (Qa (Qd (Qb (.int 9))) (Qa (Qd (Qq QT (eOp 1) (Qd (Qb (.int 1))))) Qm)))) Xd)))) (Qr (Qy 3 (XV Xd)) (Qr (UY (Bu (Qq Xg (Qd (XV (Qp (Qb (.int 0)) Xd))) (Qd (ZS (eOp 0) (YT (Qd (Qb (.int 17)))) (YT (Qd (Qb (.int 21)))))))) (Y6 [4, 5]) (Qr (Qy 6 (Qq X4 (eOp 5) (Qd (Qb (.int 2))))) (Qr (Wd [7, 8, 9] (Qq QT (eOp 2) (eOp 6))) (Qr (sIf (eOr (Q9 isI (eOp 7) (Qd (Qb .none))) (eOr (Yb (Xm (Qd (Uo 3 (Yo K) (Qa (eOp 7) (Qa (Qd (Qq QT (eOp 1) (eOp 6))) (Qa (eOp 8) (Qa (eOp 9) (Qa (eOp 3) Qm))))))))) Zm)) (Qr (Za (Qb (.bool false))) QF) QF) (Qr (sIf (Yb (Xm (Qd (Uo 3 (ZG K) (Qa (eOp 7) (Qa (eOp 8) (Qa (eOp 9) (Qa (Qd (QV (Jj K) (Qa (Qd (Qq Xg (Qd (Qq YW (eOp 5) (Qd (Qb (.int 2))))) (eOp 4))) (Qa (Qd (Qq QT (eOp 1) (eOp 6))) Qm)))) (Qa (eOp 3) Qm))))))))) (Qr (Za (Qb (.bool false))) QF) QF) QF))))) (Qr (Qy 6 (Qq X4 (Qd (QV (XO K) (Qa (eOp 0) (Qa (Qd (Qb (.int 21))) Qm)))) (Qd (Qb (.int 2))))) (Qr (Qy 5 (QV (XN K) (Qa (Qd (QV (XO K) (Qa (eOp 0) (Qa (Qd (Qb (.int 21))) Qm)))) (Qa (Qd (Qb (.int 4))) Qm)))) (Qr (sIf (Yb (Xm (Qd (QV (YN K) (Qa (Qd (Qq QT (Qd (Qq QT (eOp 2) (eOp 6))) (Qd (Qb (.int 0))))) (Qa (Qd (Qq QT (eOp 1) (eOp 6))) (Qa (Qd (Qq QT (Qd (Qq QT (eOp 2) (eOp 6))) (Qd (Qb (.int 1))))) (Qa (Qd (Qq QT (Qd (Qq QT (eOp 2) (eOp 6))) (Qd (Qb (.int 2))))) (Qa (eOp 5) Qm))))))))) (Qr (Za (Qb (.bool false))) QF) QF) (Qr (sIf (Yb (Xm (Qd (Uo 3 (Yo K) (Qa (Qd (Qq QT (Qd (Qq QT (eOp 2) (Qd (Qb (.int 0))))) (Qd (Qb (.int 0))))) (Qa (Qd (Qq QT (eOp 1) (Qd (Qb (.int 0))))) (Qa (Qd (Qq QT (Qd (Qq QT (eOp 2) (Qd (Qb (.int 0))))) (Qd (Qb (.int 1))))) (Qa (Qd (Qq QT (Qd (Qq QT (eOp 2) (Qd (Qb (.int 0))))) (Qd (Qb (.int 2))))) (Qa (eOp 3) Qm))))))))) (Qr (Za (Qb (.bool false))) QF) QF) (Qr (sIf (Yb (Xm (Qd (Uo 3 (Yo K) (Qa (Qd (Qq QT (Qd (Qq QT (eOp 2) (Qd (Qb (.int 1))))) (Qd (Qb (.int 0))))) (Qa (Qd (Qq QT (eOp 1) (Qd (Qb (.int 1))))) (Qa (Qd (Qq QT (Qd (Qq QT (eOp 2) (Qd (Qb (.int 1))))) (Qd (Qb (.int 1))))) (Qa (Qd (Qq QT (Qd (Qq QT (eOp 2) (Qd (Qb (.int 1))))) (Qd (Qb (.int 2))))) (Qa (eOp 3) Qm))))))))) (Qr (Za (Qb (.bool false))) QF) QF) (Qr (Za (Qq eqI (Qd (JW [none, none] (ZB (XM 3)) (XG 1) (Q9 neI (Qd (Qq QT (eOp 1) (Qd (Qb (.int 0))))) (Qd (Qq QT (eOp 1) (Qd (Qb (.int 1)))))) (XM 1))) (Qd (XV Xd)))) QF))))))))))
noncomputable def CW (K : W.Frag) : List D → FOut := YC 10 [0] (Fk K)
theorem Gw (g : Gr (gd p w B mg mb true)) : Yd (gd p w B mg mb true) 8 (.ref 311) (CW (gd p w B mg mb true).K) :=
 fnI g 311 10 [0] (f := Fk (gd p w B mg mb true).K) (Qc (asg 1 (QE (vC (Qk (Qf.of Qi) (Qf.of (Qk (Qf.of (cF g 221 (ZZ g) (aC (nB 0) (aC (Qf.of Qi) Qe)))) (Qf.of Qi) Zk)) Q4) (vC (Qk (Qf.of Qi) (Qf.of (Qk (Qf.of (Qk (Qf.of (cF g 221 (ZZ g) (aC (nB 0) (aC (Qf.of Qi) Qe)))) (Qf.of Qi) Y0)) (Qf.of Qi) Zk)) Q4) Ql)))) (Qc (asg 2 (QE (vC (cF g 273 (KS g) (aC (nB 0) (aC (Qf.of Qi) (aC (Qf.of (sub (nB 1) (Qf.of Qi))) Qe)))) (vC (cF g 273 (KS g) (aC (nB 0) (aC (Qf.of Qi) (aC (Qf.of (sub (nB 1) (Qf.of Qi))) Qe)))) Ql)))) (Qc (asg 3 (QE Ql)) (Qc (K3 (enu g (Qk (Qf.of (QE (vC Qi Ql))) (Qf.of (ZM (nB 0) (Zo (Qf.of Qi)) (Zo (Qf.of Qi)))) Q4)) (GO 4 5) (Qc (asg 6 (Qk (nB 5) (Qf.of Qi) Zk)) (Qc (GM (nmC 7 (nmC 8 (nmC 9 nmN))) (sub (nB 2) (nB 6))) (Qc (Xq (Xv (Xa (Y3 (nB 7) (Qf.of Jy) GP) (Xa (Xo (Yk (Qf.of (cO g 287 3 (UQ g) (aC (nB 7) (aC (Qf.of (sub (nB 1) (nB 6))) (aC (nB 8) (aC (nB 9) (aC (nB 3) Qe))))))))) XA))) (Qc (Qv XT) Qh) Qh) (Qc (Xq (Xo (Yk (Qf.of (cO g 292 3 (KF g) (aC (nB 7) (aC (nB 8) (aC (nB 9) (aC (Qf.of (cF g 235 (O3 g) (aC (Qf.of (Qk (Qf.of (Qk (nB 5) (Qf.of Qi) Y0)) (nB 4) Q4)) (aC (Qf.of (sub (nB 1) (nB 6))) Qe)))) (aC (nB 3) Qe))))))))) (Qc (Qv XT) Qh) Qh) Qh))))) (Qc (asg 6 (Qk (Qf.of (cF g 221 (ZZ g) (aC (nB 0) (aC (Qf.of Qi) Qe)))) (Qf.of Qi) Zk)) (Qc (asg 5 (cF g 228 (YL g) (aC (Qf.of (cF g 221 (ZZ g) (aC (nB 0) (aC (Qf.of Qi) Qe)))) (aC (Qf.of Qi) Qe)))) (Qc (Xq (Xo (Yk (Qf.of (cF g 306 (O5 g) (aC (Qf.of (sub (Qf.of (sub (nB 2) (nB 6))) (Qf.of Qi))) (aC (Qf.of (sub (nB 1) (nB 6))) (aC (Qf.of (sub (Qf.of (sub (nB 2) (nB 6))) (Qf.of Qi))) (aC (Qf.of (sub (Qf.of (sub (nB 2) (nB 6))) (Qf.of Qi))) (aC (nB 5) Qe))))))))) (Qc (Qv XT) Qh) Qh) (Qc (Xq (Xo (Yk (Qf.of (cO g 287 3 (UQ g) (aC (Qf.of (sub (Qf.of (sub (nB 2) (Qf.of Qi))) (Qf.of Qi))) (aC (Qf.of (sub (nB 1) (Qf.of Qi))) (aC (Qf.of (sub (Qf.of (sub (nB 2) (Qf.of Qi))) (Qf.of Qi))) (aC (Qf.of (sub (Qf.of (sub (nB 2) (Qf.of Qi))) (Qf.of Qi))) (aC (nB 3) Qe))))))))) (Qc (Qv XT) Qh) Qh) (Qc (Xq (Xo (Yk (Qf.of (cO g 287 3 (UQ g) (aC (Qf.of (sub (Qf.of (sub (nB 2) (Qf.of Qi))) (Qf.of Qi))) (aC (Qf.of (sub (nB 1) (Qf.of Qi))) (aC (Qf.of (sub (Qf.of (sub (nB 2) (Qf.of Qi))) (Qf.of Qi))) (aC (Qf.of (sub (Qf.of (sub (nB 2) (Qf.of Qi))) (Qf.of Qi))) (aC (nB 3) Qe))))))))) (Qc (Qv XT) Qh) Qh) (Qc (Qv (Em (Qf.of (lc [none, none] (Zl (nV 3)) (tgN 1) (Vx (Y3 (Qf.of (sub (nB 1) (Qf.of Qi))) (Qf.of (sub (nB 1) (Qf.of Qi))) Ub)) (nV 1))) (Qf.of (QE Ql)) UW)) Qh)))))))))) (O8 fun _ => by kernel_rfl)
end Mine
end

section
set_option Elab.async false
set_option maxRecDepth 100000
namespace Mine
open PySem PySem.W PyProof.Rows
theorem law03_enter (hlaw : ∀ (P : Params) (ns : List Int), ns.length ≤ 63 → CW (hd.heap_1 P) [.list (ns.map .int)] = .ok (.sh (.bool true))) : PySem.Challenge.rw_uf010040_03.Holds := by
 refine hd ?_
 intro w s₀ s₁ mg mb G Y a o pm cd doc dV kV ho hd' hcd hD hmg hg args vals as hpre hlay hrd hwl hlo
 have KX : (hd.heap_1 w.params).In s₁.heap := kIn_of Y
 have T := G.T
 have g : Gr (gd PySem.Challenge.rw_uf010040_03.row.toRowW.prog w s₁.heap mg mb true) := ⟨⟨T.g, T.b, T.nolimit, KX⟩, ⟨_, _, topRead_of T⟩, T.builtins⟩
 have e : mg "law" = some (.ref 311) := mg_of KX T.g (by kernel_rfl)
 have ea : a = 311 := by
  have h : mg "law" = some (.ref a) := hmg
  rw [e] at h
  cases h; rfl
 subst ea
 exact FQ (l := PySem.Challenge.rw_uf010040_03) (Gw g) (by decide) hg (n := 63) rfl rfl hpre hrd hwl (hlaw w.params)
end Mine
end

section
set_option Elab.async false
set_option maxRecDepth 100000
set_option maxHeartbeats 4000000
set_option linter.unusedSimpArgs false
set_option linter.unusedVariables false
namespace Mine
open PySem PySem.W
theorem ZI (K : Frag) (d : D) (h : Ka d = true) : Zj K [d] = .ok (.sh (.bool (isW d))) := by
 cases d with
 | range _ _ _ => cases h
 | exc _ => cases h
 | glob _ => cases h
 | dict _ _ => cases h
 | obj _ _ _ => cases h
 | none => kernel_rfl
 | bool b => kernel_rfl
 | int i => kernel_rfl
 | str x => kernel_rfl
 | tup ds => kernel_rfl
 | list ds => kernel_rfl
theorem YH (K : Frag) (d : D) (h : Ka d = true) : QK K [d, .glob (.type "tuple")] = some (.sh (.bool (match d with | .tup _ => true | _ => false))) := by
 cases d with
 | range _ _ _ => cases h
 | exc _ => cases h
 | glob _ => cases h
 | dict _ _ => cases h
 | obj _ _ _ => cases h
 | none => kernel_rfl
 | bool b => kernel_rfl
 | int i => kernel_rfl
 | str x => kernel_rfl
 | tup ds => kernel_rfl
 | list ds => kernel_rfl
theorem Zf (K : Frag) (n : Int) (h3 : 3 ≤ n) (h12 : n ≤ 12) : Zi K [.int n] = .ok (.sh .none) := by
 have e : Zj K [.int n] = .ok (.sh (.bool true)) := ZI K (.int n) rfl
 have e1 := Jz h3
 have e2 := Jz h12
 unfold Zi Je
 refine' Xj [some (.sh (.int n))] rfl rfl ?_ WQ
 repeat' (first|(with_reducible first|assumption|exact Q3|exact QG|exact Qu|apply Qo|exact Xl|exact Q1|exact QD|apply Qn|apply Xp|apply Qs|apply Qw|apply Qz|apply Q2|apply Xy|apply XC|apply Qt|apply Q7|apply Ho|apply Hu|apply HB|apply HK|apply HN|apply HO|exact HC|apply HH|apply HL|apply HR|apply HV)|exact QR rfl|exact (rfl : Qj _ = true)|exact (rfl : (_ : Option _) = some _)|decide)
theorem Z9 (K : Frag) (d : D) (hc : Ka d = true) (h : ∀ n, d = .int n → ¬ (3 ≤ n ∧ n ≤ 12)) : Zi K [d] = .exc 37 := by
 have e := ZI K d hc
 unfold Zi Je
 refine' Xj [some (.sh d)] rfl rfl ?_ YR
 cases hw : isW d with
 | false =>
  rw [hw] at e
  repeat' (first|(with_reducible first|assumption|exact Q3|exact QG|exact Qu|apply Qo|exact X5|apply X6|exact Xl|exact Q0|exact QX|apply Qn|apply Xp|apply Qs|apply Qw|apply QM|apply Qz|apply Q2|apply Xy|apply XC|apply Qt|apply Q7|apply XK|apply Ho|apply Hu|apply Hx|apply Hy|apply HB|apply HK|apply HN|apply HO|exact HC|exact HD|exact HG|apply HH|apply HL|exact HM|exact HT|apply HU)|exact QR rfl|exact (rfl : Qj _ = true)|exact (rfl : (_ : Option _) = some _)|decide)
 | true =>
  cases d with
  | int n =>
   have := h n rfl
   rw [hw] at e
   by_cases h3 : 3 ≤ n
   ·have h12 : ¬ n ≤ 12 := fun q => this ⟨h3, q⟩
    have e1 := Jz h3
    have e2 := WY h12
    repeat' (first|(with_reducible first|assumption|exact Q3|exact QG|exact Qu|apply Qo|exact X5|apply X6|exact Xl|exact Q0|exact QX|apply Qn|apply Xp|apply Qs|apply Qw|apply QM|apply Qz|apply Q2|apply Xy|apply XC|apply Qt|apply Q7|apply XK|apply Ho|apply Hu|apply Hx|apply Hy|apply HB|apply HK|apply HN|apply HO|exact HC|exact HD|exact HG|apply HH|apply HL|exact HM|exact HT|apply HU)|exact QR rfl|exact (rfl : Qj _ = true)|exact (rfl : (_ : Option _) = some _)|decide)
   ·have e1 := WY h3
    repeat' (first|(with_reducible first|assumption|exact Q3|exact QG|exact Qu|apply Qo|exact X5|apply X6|exact Xl|exact Q0|exact QX|apply Qn|apply Xp|apply Qs|apply Qw|apply QM|apply Qz|apply Q2|apply Xy|apply XC|apply Qt|apply Q7|apply XK|apply Ho|apply Hu|apply Hx|apply Hy|apply HB|apply HK|apply HN|apply HO|exact HC|exact HD|exact HG|apply HH|apply HL|exact HM|exact HT|apply HU)|exact QR rfl|exact (rfl : Qj _ = true)|exact (rfl : (_ : Option _) = some _)|decide)
  | _ => cases hw
theorem Og (K : Frag) (d : D) (h : Ka d = true) (ht : ∀ ds, d ≠ .tup ds) : ZE K [d] = .ok (.sh (.bool false)) := by
 have e := YH K d h
 have e' : QK K [d, .glob (.type "tuple")] = some (.sh (.bool false)) := by
  rw [e]
  cases d <;> first | rfl | exact absurd rfl (ht _)
 clear e
 unfold ZE UX
 refine' Xj [some (.sh d)] rfl rfl ?_ XD
 repeat' (first|(with_reducible first|assumption|exact Q3|exact QG|exact Qu|apply Qo|exact Q0|exact QQ|apply QC|apply Qs|apply QL|apply Qz|apply Q2|apply Xy|apply Qt|apply Q7|apply Q6|apply Ho|apply Ht|apply Hv|apply HB|apply HW|exact HD|exact HG|exact HS|apply HU)|exact (rfl : Qj _ = true)|exact (rfl : (_ : Option _) = some _)|decide)
theorem Bi (K : Frag) (ds : List D) (hl : ds.length ≤ 1000000) (h : ¬ (3 ≤ ds.length ∧ ds.length ≤ 12)) : ZE K [.tup ds] = .ok (.sh (.bool false)) := by
 have e' : QK K [.tup ds, .glob (.type "tuple")] = some (.sh (.bool true)) := YH K (.tup ds) rfl
 have e2 := J9 hl
 unfold ZE UX
 refine' Xj [some (.sh (.tup ds))] rfl rfl ?_ XD
 by_cases h3 : 3 ≤ ds.length
 ·have h12 : ¬ ((ds.length : Int) ≤ 12) := fun q => h ⟨h3, by omega⟩
  have h3' : (3 : Int) ≤ ds.length := by omega
  have e3 := Jz h3'
  have e4 := WY h12
  repeat' (first|(with_reducible first|assumption|exact Q3|exact QG|exact Qu|apply Qo|exact Xl|exact Q0|exact QQ|apply Qn|apply QC|apply Qs|apply QL|apply Qz|apply Q2|apply Xy|apply XC|apply Qt|apply Q7|apply Q6|apply Ho|apply Ht|apply Hv|apply HB|apply HK|apply HN|apply HO|apply HW|exact HC|exact HD|exact HG|apply HH|apply HL|exact HM|exact HS|apply HU)|exact (rfl : Qj _ = true)|exact (rfl : (_ : Option _) = some _)|decide)
 ·have h3' : ¬ ((3 : Int) ≤ ds.length) := by omega
  have e3 := WY h3'
  repeat' (first|(with_reducible first|assumption|exact Q3|exact QG|exact Qu|apply Qo|exact Xl|exact Q0|exact QQ|apply Qn|apply QC|apply Qs|apply QL|apply Qz|apply Q2|apply Xy|apply XC|apply Qt|apply Q7|apply Q6|apply Ho|apply Ht|apply Hv|apply HB|apply HK|apply HN|apply HO|apply HW|exact HC|exact HD|exact HG|apply HH|apply HL|exact HM|exact HS|apply HU)|exact (rfl : Qj _ = true)|exact (rfl : (_ : Option _) = some _)|decide)
theorem CK (K : Frag) (ds : List D) (hl : ds.length ≤ 1000000) (h : ∀ d ∈ ds, Ka d = true) : YG (XG 1) Bc (QV (Zj K) (Qa (eOp 1) Qm)) [none, none] ds [] = some (ds.map fun d => .bool (isW d)) := by
 refine KD ds (fun d hd => ?_) hl
 have e := ZI K d (h d hd)
 refine ⟨[none, some (.sh d)], .sh (.bool (isW d)), [none, some (.sh d)], rfl, ?_, rfl⟩
 repeat' (first|(with_reducible first|assumption|exact Qu|apply Qo|apply Qn|apply Qw|apply Hu)|exact QR rfl|exact (rfl : Qj _ = true)|exact (rfl : (_ : Option _) = some _)|decide)
theorem WT (g : D → Bool) (ds : List D) : U6 (ds.map fun d => .bool (g d)) = some (ds.map g) := by
 have := BL (ds.map g)
 rwa [List.map_map] at this
theorem F4 (ns : List Int) : ∀ d ∈ iL ns, Ka d = true := fun d hd => by
 obtain ⟨i, _, rfl⟩ := List.mem_map.mp hd; rfl
theorem Gz (ns : List Int) : (iL ns).all isW = true := List.all_eq_true.mpr fun d hd => by
 obtain ⟨i, _, rfl⟩ := List.mem_map.mp hd; rfl
theorem QI (ns : List Int) : (iL ns).length = ns.length := by simp [iL]
theorem Wk (K : Frag) (ns : List Int) (h3 : 3 ≤ ns.length) (h12 : ns.length ≤ 12) : ZE K [.tup (iL ns)] = .ok (.sh (.bool (eqB (UI ns) (rng ns.length)))) := by
 have e' : QK K [.tup (iL ns), .glob (.type "tuple")] = some (.sh (.bool true)) := YH K (.tup (iL ns)) rfl
 have hl : (iL ns).length ≤ 1000000 := by rw [QI]; omega
 have cw := CK K (iL ns) hl (F4 ns)
 have e2 := J9 hl
 rw [QI] at e2
 have e3 := Jz (show (3 : Int) ≤ ns.length by omega)
 have e4 := Jz (show (ns.length : Int) ≤ 12 by omega)
 have hw' : ((iL ns).map isW).all id = true := by rw [List.all_map]; exact Gz ns
 have e5 : DD [.list ((iL ns).map fun d => .bool (isW d))] = some (.sh (.bool true)) := by rw [C3 (WT _ _), ← hw']
 have e6 : Oc [.tup (iL ns)] = some (.ow true (.list (iL (UI ns)))) := Dr (DZ ns) (by omega)
 have e7 : ZH [.range 0 ns.length 1] = some (.ow true (.list (iL (rng ns.length)))) := by rw [C0 (Jf _ (by omega)), Uk]
 have e8 := BT (UI ns) (rng ns.length)
 unfold ZE UX
 refine' Xj [some (.sh (.tup (iL ns)))] rfl rfl ?_ XD
 repeat' (first|(with_reducible first|assumption|exact Q3|exact Z6|exact QG|exact Qu|apply Qo|exact Wq|apply Uj|exact Xl|exact Q5|exact Q1|exact QD|exact QQ|apply Qn|apply QC|apply QJ|apply Xs|apply Qs|apply QL|apply Qz|apply Q2|apply Xy|apply XC|apply XB|apply Jx|apply Qt|apply Q7|apply Q6|apply Ho|apply Hs|apply Hr|apply Ht|apply Hv|apply Hw|apply HB|apply HK|apply HN|apply HO|apply HP|apply HW|exact HC|apply HH|apply HL|apply HR|exact HS|apply HV)|exact (rfl : Qj _ = true)|exact Xk rfl|exact (rfl : (_ : Option _) = some _)|decide)
structure Row (n : Nat) (ns : List Int) : Prop where
 perm : ns.Perm (rng n)
 h3 : 3 ≤ n
 h12 : n ≤ 12
theorem Row.len {n : Nat} {ns : List Int} (r : Row n ns) : ns.length = n := by rw [r.perm.length_eq, ZY]
theorem WN (K : Frag) {n : Nat} {ns : List Int} (r : Row n ns) : ZE K [.tup (iL ns)] = .ok (.sh (.bool true)) := by
 rw [Wk K ns (by rw [r.len]; exact r.h3) (by rw [r.len]; exact r.h12), r.len, Eu.mpr (Vr.mpr r.perm)]
theorem WV (K : Frag) (ns : List Int) (h3 : 3 ≤ ns.length) (h12 : ns.length ≤ 12) (h : ¬ ns.Perm (rng ns.length)) : ZE K [.tup (iL ns)] = .ok (.sh (.bool false)) := by
 rw [Wk K ns h3 h12, D9.mpr fun q => h (Vr.mp q)]
theorem D5 (n : Nat) (h : n ≤ 1000000) : Yz [.range 0 n 1] = some (.sh (.tup (iL (rng n)))) := by rw [EA (Jf _ h), Uk]
theorem E6 (n : Nat) (h : n ≤ 1000000) : ZH [.range 0 n 1] = some (.ow true (.list (iL (rng n)))) := by rw [C0 (Jf _ h), Uk]
theorem Kw (n : Nat) (h : n ≤ 1000000) : Zt (.range 0 n 1) = some (iL (rng n)) := by rw [Bl (Jf _ h), Uk]
theorem C9 {n : Nat} {i : Int} : i ∈ rng n ↔ 0 ≤ i ∧ i < n := by
 unfold rng
 rw [List.mem_map]
 constructor
 ·rintro ⟨k, hk, rfl⟩
  have := List.mem_range.mp hk
  omega
 ·rintro ⟨h0, h1⟩
  exact ⟨i.toNat, List.mem_range.mpr (by omega), by omega⟩
theorem Ky {a : List Int} {j : Nat} (h : j < a.length) : (iL a)[j]? = some (.int (a.getD j 0)) := by
 unfold iL
 rw [List.getElem?_map, List.getElem?_eq_getElem h, List.getD_eq_getElem?_getD, List.getElem?_eq_getElem h]; rfl
theorem Yr {ds : List D} (h : ds.length ≤ 1000000) : Yz [.list ds] = some (.sh (.tup ds)) := Fj h
theorem Row.nodup {n : Nat} {a : List Int} (r : Row n a) : a.Nodup := by
 rw [r.perm.nodup_iff]
 unfold rng List.Nodup
 rw [List.pairwise_map]
 exact (List.pairwise_lt_range (n := n)).imp fun h => by omega
theorem Fh (f : List Int) (j : Nat) (v : Int) : (iL f).set j (.int v) = iL (f.set j v) := by unfold iL; rw [List.map_set]
theorem Yh (K : Frag) (ns : List Int) (k : Nat) (hl : ns.length ≤ 63) : XO K [.list (iL ns), .int k] = .ok (.sh (.int (ns.getD k 0))) := by
 have e1 := XE (ds := iL ns) (by rw [QI]; omega)
 rw [QI] at e1
 unfold XO WJ
 refine' Xj [some (.sh (.list (iL ns))), some (.sh (.int k))] rfl rfl ?_ XD
 by_cases h : k < ns.length
 ·have e2 := C7 (a := (k : Int)) (b := ns.length) (by omega)
  have e3 : QT (.list (iL ns)) (.int k) = some (.sh (.int (ns.getD k 0))) := Jk (by omega) (by omega) (by rw [Int.toNat_natCast]; exact Ky h)
  repeat' (first|(with_reducible first|assumption|exact Q3|exact QG|exact Qu|apply Qo|exact Q0|exact QD|apply Qn|apply Zq|apply Xz|apply Xp|apply Qs|apply QL|apply Qt|apply Q7|apply Q6|apply Ho|apply Hr|apply Ht|apply HI|apply HW|apply HR|exact HS|apply HU|apply HV)|exact (rfl : Qj _ = true)|exact (rfl : (_ : Option _) = some _)|decide)
 ·have e2 := Dh (a := (k : Int)) (b := ns.length) (by omega)
  rw [show ns.getD k 0 = 0 by rw [List.getD_eq_getElem?_getD, List.getElem?_eq_none (by omega)]; rfl]
  repeat' (first|(with_reducible first|assumption|exact Q3|exact QG|exact Qu|apply Qo|exact Q0|exact QD|apply Qn|apply Zq|apply Xz|apply Xp|apply Qs|apply QL|apply Qt|apply Q7|apply Q6|apply Ho|apply Hr|apply Ht|apply HI|apply HW|apply HR|exact HS|apply HU|apply HV)|exact (rfl : Qj _ = true)|exact (rfl : (_ : Option _) = some _)|decide)
noncomputable def mix (c k : Int) : Int := (c * 48271 + 7919 * k * k + 104729 * k + 12345).fmod 2147483647
theorem UF (a : Int) {b : Int} (h : 0 < b) : 0 ≤ a.fmod b := by rw [Int.fmod_eq_emod_of_nonneg _ (by omega)]; exact Int.emod_nonneg _ (by omega)
theorem C8 (a : Int) {b : Int} (h : 0 < b) : a.fmod b < b := by rw [Int.fmod_eq_emod_of_nonneg _ (by omega)]; exact Int.emod_lt_of_pos _ h
theorem Cb (c k : Int) : 0 ≤ mix c k := UF _ (by decide)
theorem Z8 (K : Frag) (c k : Int) (hk : small k = true) : XN K [.int c, .int k] = .ok (.sh (.int (mix c k))) := by
 have e1 : Wr (.int (7919 * k)) (.int k) = some (.sh (.int (7919 * k * k))) := W8 (by rw [hk, Bool.or_true])
 have e2 : Wr (.int 7919) (.int k) = some (.sh (.int (7919 * k))) := W8 (by rw [hk, Bool.or_true])
 have e3 : Wr (.int 104729) (.int k) = some (.sh (.int (104729 * k))) := W8 (by rw [hk, Bool.or_true])
 have e4 : Wr (.int c) (.int 48271) = some (.sh (.int (c * 48271))) := W8 (by rw [J5 (b := 48271) (by decide), Bool.or_true])
 unfold XN Kz
 refine' Xj [some (.sh (.int c)), some (.sh (.int k))] rfl rfl ?_ XD
 unfold mix
 repeat' (first|(with_reducible first|assumption|exact Q3|exact XF|exact QG|exact Xl|apply VK|apply Xi|apply Xs|apply Xp|apply Qs|apply Qt|apply Q6|apply XW|apply W8|apply Ho|apply Hs|apply Hr|apply HW|exact HS)|exact (rfl : Qj _ = true)|exact (rfl : (_ : Option _) = some _)|decide)
theorem El (l : List Int) (j : Nat) (h : j < l.length) : (l.getD j 0 :: l.eraseIdx j).Perm l := by
 induction l generalizing j with
 | nil => cases h
 | cons x l ih =>
  cases j with
  | zero => exact .refl _
  | succ j =>
   rw [List.eraseIdx_cons_succ]
   exact (List.Perm.swap _ _ _).trans ((ih j (by simpa using h)).cons x)
theorem Fm (l : List Int) (j : Nat) : (iL l).eraseIdx j = iL (l.eraseIdx j) := by 
 induction l generalizing j with
 | nil => rfl
 | cons x l ih =>
  cases j with
  | zero => rfl
  | succ j =>
   show _ :: (iL l).eraseIdx j = _ :: iL (l.eraseIdx j)
   rw [ih]
theorem Go (l m : List Int) : iL l ++ iL m = iL (l ++ m) := by unfold iL; rw [List.map_append]
theorem Fb (K : Frag) (c : Int) (n : Nat) (h12 : n ≤ 12) : ∃ found v, ZT (XG 4) (Qr (Zb (Qd (ZP 3 (DT 2 (Qd (Qq X4 (Qd (Qq YW (Qd (QV (XN K) (Qa (eOp 0) (Qa (eOp 4) Qm)))) (Qd (Qb (.int 7))))) (Qd (Xc YK (Qa (eOp 2) Qm))))))))) QF) (iL (rng n)) [some (.sh (.int c)), some (.sh (.int n)), some (.ow true (.list (iL (rng n)))), some (.ow true (.list [])), none] = .ok .next [some (.sh (.int c)), some (.sh (.int n)), some (.ow true (.list [])), some (.ow true (.list (iL found))), v] ∧ found.Perm (rng n) := by
 obtain ⟨ρ', h1, left, found, v, rfl, hp, hl, hm⟩ := Ob (b := XG 4) (sf := (Qr (Zb (Qd (ZP 3 (DT 2 (Qd (Qq X4 (Qd (Qq YW (Qd (QV (XN K) (Qa (eOp 0) (Qa (eOp 4) Qm)))) (Qd (Qb (.int 7))))) (Qd (Xc YK (Qa (eOp 2) Qm))))))))) QF)) (fun ρ ds => ∃ (left found : List Int) (v : Option T), ρ = [some (.sh (.int c)), some (.sh (.int n)), some (.ow true (.list (iL left))), some (.ow true (.list (iL found))), v] ∧ (found ++ left).Perm (rng n) ∧ left.length = ds.length ∧ ∀ d ∈ ds, ∃ k : Int, d = .int k ∧ small k = true) (by
  rintro ρ d ds ⟨left, found, v, rfl, hp, hl, hm⟩
  obtain ⟨k, rfl, hk⟩ := hm d (.head _)
  have hn : (found ++ left).length = n := by rw [hp.length_eq, ZY]
  rw [List.length_append] at hn
  rw [List.length_cons] at hl
  have e1 := Z8 K c k hk
  have hl' : (iL left).length ≤ 1000000 := by rw [QI]; omega
  have hf' : (iL found).length ≤ 1000000 := by rw [QI]; omega
  have e2 := XE hl'
  rw [QI] at e2
  have e3 : X4 (.int ((mix c k).fdiv 7)) (.int left.length) = some (.sh (.int (((mix c k).fdiv 7).fmod left.length))) := XW (by omega)
  generalize hj : ((mix c k).fdiv 7).fmod left.length = j at e3
  have hj0 : 0 ≤ j := by rw [← hj]; exact UF _ (by omega)
  have hj1 : j < left.length := by rw [← hj]; exact C8 _ (by omega)
  have e4 : (0 : Int) ≤ j ∧ j < ((iL left).length : Int) := by rw [QI]; exact ⟨hj0, hj1⟩
  have e5 : (iL left)[j.toNat]? = some (.int (left.getD j.toNat 0)) := Ky (by omega)
  refine ⟨[some (.sh (.int c)), some (.sh (.int n)), some (.ow true (.list (iL left))), some (.ow true (.list (iL found))), some (.sh (.int k))], [some (.sh (.int c)), some (.sh (.int n)), some (.ow true (.list (iL (left.eraseIdx j.toNat)))), some (.ow true (.list (iL (found ++ [left.getD j.toNat 0])))), some (.sh (.int k))], rfl, ?_, _, _, _, rfl, ?_, ?_, fun d hd => hm d (.tail _ hd)⟩
  ·rw [← Go, ← Fm]
   show _ = Res.ok Fl.next [some (.sh (.int c)), some (.sh (.int n)), some (.ow true (.list ((iL left).eraseIdx j.toNat))), some (.ow true (.list (iL found ++ [.int (left.getD j.toNat 0)]))), some (.sh (.int k))]
   repeat' (first|(with_reducible first|assumption|exact Q3|exact Y5|exact UZ|exact QG|exact Qu|apply Qo|apply Yg|exact Xl|exact QD|apply Qn|apply QC|apply Xs|apply Qs|apply QL|apply Qw|apply Z2|apply Gs|apply Qt|apply Xb|apply XW|apply XY|apply Ho|apply Hs|apply Hr|apply Ht|apply Hu|apply Hv|apply HX|apply HR)|exact QR rfl|exact (rfl : Qj _ = true)|exact (rfl : (_ : Option _) = some _)|decide)
  ·rw [List.append_assoc]
   exact ((El left j.toNat (by omega)).append_left found).trans hp
  ·rw [List.length_eraseIdx_of_lt (by omega)]; omega) (iL (rng n)) _ ⟨rng n, [], none, rfl, .refl _, by rw [ZY, QI, ZY], fun d hd => by
   obtain ⟨i, hi, rfl⟩ := List.mem_map.mp hd
   have := C9.mp hi
   exact ⟨i, rfl, J5 (by omega)⟩⟩
 have : left = [] := List.length_eq_zero_iff.mp hl
 subst this
 rw [List.append_nil] at hp
 exact ⟨found, v, h1, hp⟩
theorem WK (K : Frag) (c : Int) (n : Nat) (h3 : 3 ≤ n) (h12 : n ≤ 12) : ∃ a, Jj K [.int c, .int n] = .ok (.sh (.tup (iL a))) ∧ Row n a := by
 obtain ⟨found, v, h1, hp⟩ := Fb K c n h12
 refine ⟨found, ?_, hp, h3, h12⟩
 have e1 := E6 n (by omega)
 have e2 := Kw n (by omega)
 have e3 := Yr (ds := iL found) (by rw [QI, hp.length_eq, ZY]; omega)
 unfold Jj KJ
 refine' Xj [some (.sh (.int c)), some (.sh (.int n)), none, none, none] rfl rfl ?_ XD
 repeat' (first|(with_reducible first|assumption|exact Q3|exact Y5|exact UZ|exact QG|exact Qu|apply Qo|exact X5|exact Q5|exact QX|apply Qn|apply QJ|apply Qs|apply QL|apply XU|apply XB|apply Qt|apply Q6|apply Xf|apply Zn|apply Ho|apply Ht|apply Hv|apply Hw|apply HA|apply HP|apply HW|apply HZ|apply H1|apply HR|exact HS)|exact (rfl : Qj _ = true)|exact (rfl : (_ : Option _) = some _)|decide)
theorem US (a : Int) {n : Nat} (h : 0 < n) : ∃ p : Nat, a.fmod n = p ∧ p < n := by
 have h0 := UF a (b := n) (by omega)
 have h1 := C8 a (b := n) (by omega)
 exact ⟨(a.fmod n).toNat, by omega, by omega⟩
theorem OQ : PyData.strOk "refused" = true := by decide +kernel
theorem Gj : PyData.strOk "row" = true := by decide +kernel
theorem Ei : PyData.strOk "bells" = true := by decide +kernel
noncomputable def Ke (n : Int) : Int → List D → Bool
 | _, [] => true
 | ah, .int p :: r => decide (ah + 2 ≤ p) && decide (p ≤ n - 2) && Ke n p r
 | _, _ :: _ => false
theorem BD (K : Frag) (n : Int) {dch : D} {ds : List D} (hc : ∀ d ∈ ds, Ka d = true) : ∃ r, ZT (XG 3) (Qr (sIf (eOr (Yb (Xm (Qd (QV (Zj K) (Qa (eOp 3) Qm))))) (eOr (Yb (Y7 leI leI (Qd (Qq Xg (eOp 2) (Qd (Qb (.int 2))))) (eOp 3) (Qd (Qq Oy (eOp 0) (Qd (Qb (.int 2))))))) Zm)) (Qr (Jv 61 (Qp (Qb (.str "no place of a change")) Xd)) QF) QF) (Qr (Qy 2 (XM 3)) QF)) ds [some (.sh (.int n)), some (.sh dch), some (.sh (.int (-2))), none] = r ∧ (if Ke n (-2) ds then ∃ ρ, r = .ok .next ρ else ∃ ρ, r = .exc 61 ρ) := by
 refine CF (fun ρ ds' => ∃ (ah : Int) (v : Option T), ρ = [some (.sh (.int n)), some (.sh dch), some (.sh (.int ah)), v] ∧ Ke n ah ds' = Ke n (-2) ds ∧ ∀ d ∈ ds', Ka d = true) _ ?_ ?_ ds _ ⟨-2, none, rfl, rfl, hc⟩
 ·rintro ρ ⟨ah, v, rfl, h, _⟩
  rw [← h, Ke, if_pos rfl]; exact ⟨_, rfl⟩
 ·rintro ρ d ds' ⟨ah, v, rfl, h, hc⟩
  have hd := hc d (.head _)
  have e := ZI K d hd
  refine ⟨[some (.sh (.int n)), some (.sh dch), some (.sh (.int ah)), some (.sh d)], ?_⟩
  cases hw : isW d with
  | false =>
   rw [hw] at e
   have hp : Ke n (-2) ds = false := by rw [← h]; cases d <;> first | rfl | cases hw
   refine ⟨.exc 61 [some (.sh (.int n)), some (.sh dch), some (.sh (.int ah)), some (.sh d)], rfl, ?_, ?_⟩
   ·repeat' (first|(with_reducible first|assumption|exact Q3|exact XF|exact Y5|exact QG|exact Qu|apply Qo|exact X5|apply X6|exact Q0|exact QX|exact Q1|exact QD|apply Qn|apply Xi|apply Xp|apply Qs|apply Qw|apply QM|apply Qz|apply Q2|apply Xy|apply XC|apply Qt|apply Q7|apply Xf|apply XK|apply Ho|apply Hu|apply Hx|apply Hy|apply HB|apply HK|apply HN|apply HO|apply HZ|exact HC|exact HD|exact HG|apply HH|apply HL|exact HM|apply HR|exact HT|apply HU|apply HV)|exact QR rfl|exact (rfl : Qj _ = true)|exact Xk rfl|exact (rfl : (_ : Option _) = some _)|decide)
   ·show if _ then _ else _
    rw [hp, if_neg (by decide)]; exact ⟨_, rfl⟩
  | true =>
   rw [hw] at e
   cases d with
   | int p =>
    rw [Ke] at h
    by_cases h1 : ah + 2 ≤ p
    ·have e1 := Jz h1
     by_cases h2 : p ≤ n - 2
     ·have e2 := Jz h2
      refine ⟨.ok .next [some (.sh (.int n)), some (.sh dch), some (.sh (.int p)), some (.sh (.int p))], rfl, ?_, ?_⟩
      ·repeat' (first|(with_reducible first|assumption|exact Q3|exact XF|exact Y5|exact QG|exact Qu|apply Qo|exact X5|apply X6|exact Q0|exact QX|exact Q1|exact QD|apply Qn|apply Xi|apply Xp|apply Qs|apply Qw|apply QM|apply Qz|apply Q2|apply Xy|apply XC|apply Qt|apply Q7|apply Xf|apply XK|apply Ho|apply Hu|apply Hx|apply Hy|apply HB|apply HK|apply HN|apply HO|apply HZ|exact HC|exact HD|exact HG|apply HH|apply HL|exact HM|apply HR|exact HT|apply HU|apply HV)|exact QR rfl|exact (rfl : Qj _ = true)|exact Xk rfl|exact (rfl : (_ : Option _) = some _)|decide)
      ·exact ⟨p, _, rfl, by rw [← h, decide_eq_true h1, decide_eq_true h2]; rfl, fun d hd => hc d (.tail _ hd)⟩
     ·have e2 := WY h2
      have hp : Ke n (-2) ds = false := by rw [← h, decide_eq_false h2]; simp
      refine ⟨.exc 61 [some (.sh (.int n)), some (.sh dch), some (.sh (.int ah)), some (.sh (.int p))], rfl, ?_, ?_⟩
      ·repeat' (first|(with_reducible first|assumption|exact Q3|exact XF|exact Y5|exact QG|exact Qu|apply Qo|exact X5|apply X6|exact Q0|exact QX|exact Q1|exact QD|apply Qn|apply Xi|apply Xp|apply Qs|apply Qw|apply QM|apply Qz|apply Q2|apply Xy|apply XC|apply Qt|apply Q7|apply Xf|apply XK|apply Ho|apply Hu|apply Hx|apply Hy|apply HB|apply HK|apply HN|apply HO|apply HZ|exact HC|exact HD|exact HG|apply HH|apply HL|exact HM|apply HR|exact HT|apply HU|apply HV)|exact QR rfl|exact (rfl : Qj _ = true)|exact Xk rfl|exact (rfl : (_ : Option _) = some _)|decide)
      ·show if _ then _ else _
       rw [hp, if_neg (by decide)]; exact ⟨_, rfl⟩
    ·have e1 := WY h1
     have hp : Ke n (-2) ds = false := by rw [← h, decide_eq_false h1]; simp
     refine ⟨.exc 61 [some (.sh (.int n)), some (.sh dch), some (.sh (.int ah)), some (.sh (.int p))], rfl, ?_, ?_⟩
     ·repeat' (first|(with_reducible first|assumption|exact Q3|exact XF|exact Y5|exact QG|exact Qu|apply Qo|exact X5|apply X6|exact Q0|exact QX|exact Q1|exact QD|apply Qn|apply Xi|apply Xp|apply Qs|apply Qw|apply QM|apply Qz|apply Q2|apply Xy|apply XC|apply Qt|apply Q7|apply Xf|apply XK|apply Ho|apply Hu|apply Hx|apply Hy|apply HB|apply HK|apply HN|apply HO|apply HZ|exact HC|exact HD|exact HG|apply HH|apply HL|exact HM|apply HR|exact HT|apply HU|apply HV)|exact QR rfl|exact (rfl : Qj _ = true)|exact Xk rfl|exact (rfl : (_ : Option _) = some _)|decide)
     ·show if _ then _ else _
      rw [hp, if_neg (by decide)]; exact ⟨_, rfl⟩
   | _ => cases hw
theorem Ja (K : Frag) (n : Int) (d : D) (hc : Ka d = true) (h : ∀ ds, d ≠ .tup ds) : QW K [.int n, d] = .exc 61 := by
 have e := YH K d hc
 have e' : QK K [d, .glob (.type "tuple")] = some (.sh (.bool false)) := by
  rw [e]
  cases d <;> first | rfl | exact absurd rfl (h _)
 clear e
 unfold QW ZL
 refine' Xj [some (.sh (.int n)), some (.sh d), none, none] rfl rfl ?_ YR
 repeat' (first|(with_reducible first|assumption|exact Q3|exact QG|exact Qu|apply Qo|exact X5|apply X6|exact Q0|exact QX|exact QQ|apply QC|apply Qs|apply QL|apply QM|apply Qz|apply Q2|apply Xy|apply Qt|apply Q7|apply XK|apply Ho|apply Ht|apply Hv|apply Hx|apply Hy|apply HB|exact HD|exact HG|exact HT|apply HU)|exact (rfl : Qj _ = true)|exact (rfl : (_ : Option _) = some _)|decide)
theorem Kc (K : Frag) (n : Int) : QW K [.int n, .tup []] = .exc 61 := by
 have e' : QK K [.tup [], .glob (.type "tuple")] = some (.sh (.bool true)) := YH K (.tup []) rfl
 have e2 : YK [.tup []] = some (.sh (.int 0)) := J9 (ds := []) (Nat.zero_le _)
 have e3 := B7 0
 unfold QW ZL
 refine' Xj [some (.sh (.int n)), some (.sh (.tup [])), none, none] rfl rfl ?_ YR
 repeat' (first|(with_reducible first|assumption|exact Q3|exact QG|exact Qu|apply Qo|exact X5|apply X6|exact Xl|exact Q0|exact QX|exact QQ|apply Qn|apply QC|apply QS|apply Qs|apply QL|apply QM|apply Qz|apply Q2|apply Xy|apply Qt|apply Q7|apply XK|apply Ho|apply Ht|apply Hv|apply Hx|apply Hy|apply HB|apply HI|apply HJ|exact HC|exact HG|apply HH|exact HT|apply HU)|exact (rfl : Qj _ = true)|exact (rfl : (_ : Option _) = some _)|decide)
theorem JL (K : Frag) (n : Int) (ds : List D) (hn : ds ≠ []) (hl : ds.length ≤ 1000000) (hc : ∀ d ∈ ds, Ka d = true) : QW K [.int n, .tup ds] = if Ke n (-2) ds then .ok (.sh .none) else .exc 61 := by
 have e' : QK K [.tup ds, .glob (.type "tuple")] = some (.sh (.bool true)) := YH K (.tup ds) rfl
 have e2 := J9 hl
 have e3 := BV (a := (ds.length : Int)) (b := 0) (by
  have := List.length_pos_iff.mpr hn; omega)
 obtain ⟨r, h1, h2⟩ := BD K n (dch := .tup ds) hc
 have e4 : Zt (.tup ds) = some ds := rfl
 have e5 : Us (.int 2) = some (.sh (.int (-2))) := rfl
 cases hp : Ke n (-2) ds with
 | true =>
  rw [hp, if_pos rfl] at h2
  obtain ⟨ρ, rfl⟩ := h2
  rw [if_pos rfl]
  unfold QW ZL
  refine' Xj [some (.sh (.int n)), some (.sh (.tup ds)), none, none] rfl rfl ?_ WQ
  repeat' (first|(with_reducible first|assumption|exact Q3|exact Y5|exact QG|exact Qu|apply Qo|exact Xl|exact Q1|exact QD|exact QQ|apply Qn|apply QC|apply QS|apply Qs|apply QL|apply Qz|apply Q2|apply Xy|apply Ut|apply XB|apply Qt|apply Q7|apply Xf|apply Zn|apply Ho|apply Hq|apply Ht|apply Hv|apply HB|apply HI|apply HJ|apply HP|apply HZ|apply H1|exact HC|apply HH|apply HR|exact HT|apply HV)|exact (rfl : Qj _ = true)|exact Xk rfl|exact (rfl : (_ : Option _) = some _)|decide)
 | false =>
  rw [hp, if_neg (by decide)] at h2
  obtain ⟨ρ, rfl⟩ := h2
  rw [if_neg (by decide)]
  unfold QW ZL
  refine' Xj [some (.sh (.int n)), some (.sh (.tup ds)), none, none] rfl rfl ?_ YR
  repeat' (first|(with_reducible first|assumption|exact Q3|exact Y5|exact QG|exact Qu|apply Qo|exact Xl|exact Q1|exact QD|exact QQ|apply Qn|apply QC|apply QS|apply Qs|apply QL|apply Qz|apply Q2|apply Xy|apply Ut|apply XB|apply Qt|apply Q7|apply Xf|apply Zn|apply Ho|apply Hq|apply Ht|apply Hv|apply HB|apply HI|apply HJ|apply HP|apply HZ|apply H1|exact HC|apply HH|apply HR|exact HT|apply HV)|exact (rfl : Qj _ = true)|exact Xk rfl|exact (rfl : (_ : Option _) = some _)|decide)
noncomputable def Jn (n : Nat) : Nat → List Nat → Bool
 | _, [] => true
 | lo, p :: r => decide (lo ≤ p) && decide (p + 2 ≤ n) && Jn n (p + 2) r
structure Change (n : Nat) (cs : List Nat) : Prop where
 ne : cs ≠ []
 ok : Jn n 0 cs = true
noncomputable def nD (cs : List Nat) : List D := cs.map fun (p : Nat) => D.int p
theorem F8 (cs : List Nat) : nD cs = iL (cs.map fun (p : Nat) => (p : Int)) := by unfold nD iL; rw [List.map_map]; rfl
theorem CX (n : Nat) : ∀ (cs : List Nat) (lo : Nat), Ke n ((lo : Int) - 2) (nD cs) = Jn n lo cs
 | [], _ => rfl
 | p :: r, lo => by
  show (decide _ && decide _ && Ke n p (nD r)) = _
  rw [Jn, ← CX n r (p + 2)]
  have a : decide ((lo : Int) - 2 + 2 ≤ p) = decide (lo ≤ p) := decide_eq_decide.mpr (by omega)
  have b : decide ((p : Int) ≤ n - 2) = decide (p + 2 ≤ n) := decide_eq_decide.mpr (by omega)
  rw [a, b, show (((p + 2 : Nat) : Int) - 2) = (p : Int) by omega]
theorem Oi {n : Nat} : ∀ {cs : List Nat} {lo : Nat}, Jn n lo cs = true → lo ≤ n → cs.length ≤ n - lo
 | [], _, _, _ => Nat.zero_le _
 | p :: r, lo, h, hl => by
  rw [Jn] at h
  simp only [Bool.and_eq_true, decide_eq_true_eq] at h
  have := Oi h.2 (by omega)
  simp only [List.length_cons]; omega
theorem Ct (cs : List Nat) : (nD cs).length = cs.length := by simp [nD]
theorem F5 (cs : List Nat) : ∀ d ∈ nD cs, Ka d = true := fun d hd => by
 obtain ⟨i, _, rfl⟩ := List.mem_map.mp hd; rfl
theorem Ua (K : Frag) {n : Nat} {cs : List Nat} (h : Change n cs) (hn : n ≤ 12) : QW K [.int n, .tup (nD cs)] = .ok (.sh .none) := by
 have := Oi h.ok (Nat.zero_le _)
 rw [JL K n (nD cs) (by intro q; exact h.ne (List.map_eq_nil_iff.mp q)) (by rw [Ct]; omega) (F5 cs)]
 have e := CX n cs 0
 rw [show (((0 : Nat) : Int) - 2) = -2 by decide] at e
 rw [e, h.ok, if_pos rfl]
noncomputable def swap (f : List Int) (p : Nat) : List Int := (f.set p (f.getD (p + 1) 0)).set (p + 1) (f.getD p 0)
noncomputable def rung (a : List Int) (cs : List Nat) : List Int := cs.foldl swap a
theorem WX (f : List Int) (p : Nat) : (swap f p).length = f.length := by simp [swap]
theorem W4 (a : List Int) (cs : List Nat) : (rung a cs).length = a.length := by
 unfold rung
 induction cs generalizing a with
 | nil => rfl
 | cons p r ih => rw [List.foldl_cons, ih, WX]
theorem Fp {f : List Int} {p : Nat} (h : p + 1 < f.length) (i : Nat) : (swap f p)[i]? = if i = p then f[p + 1]? else if i = p + 1 then f[p]? else f[i]? := by
 unfold swap
 by_cases h1 : i = p
 ·subst h1
  rw [if_pos rfl, List.getElem?_set_ne (by omega), List.getElem?_set_self (by omega), List.getD_eq_getElem?_getD, List.getElem?_eq_getElem h]; rfl
 ·rw [if_neg h1]
  by_cases h2 : i = p + 1
  ·subst h2
   rw [if_pos rfl, List.getElem?_set_self (by rw [List.length_set]; omega), List.getD_eq_getElem?_getD, List.getElem?_eq_getElem (by omega : p < f.length)]; rfl
  ·rw [if_neg h2, List.getElem?_set_ne (by omega), List.getElem?_set_ne (by omega)]
theorem DX {f : List Int} {p : Nat} (h : p + 1 < f.length) : (swap f p).Perm f := by
 induction p generalizing f with
 | zero =>
  match f, h with
  | x :: y :: l, _ => exact List.Perm.swap _ _ _
 | succ p ih =>
  match f, h with
  | x :: l, h =>
   have : swap (x :: l) (p + 1) = x :: swap l p := by unfold swap; simp
   rw [this]
   exact (ih (by simpa using h)).cons x
theorem Vq {n : Nat} : ∀ {cs : List Nat} {lo : Nat} {f : List Int}, f.length = n → Jn n lo cs = true → (rung f cs).Perm f
 | [], _, _, _, _ => .refl _
 | q :: r, lo, f, hf, h => by
  rw [Jn] at h
  simp only [Bool.and_eq_true, decide_eq_true_eq] at h
  exact (Vq (f := swap f q) (by rw [WX]; exact hf) h.2).trans (DX (by omega))
theorem Row.rung {n : Nat} {a : List Int} {cs : List Nat} (r : Row n a) (h : Jn n 0 cs = true) : Row n (rung a cs) := ⟨(Vq r.len h).trans r.perm, r.h3, r.h12⟩
theorem V4 (K : Frag) {n : Nat} {a : List Int} {dch : D} (ha : a.length = n) (hn : n ≤ 12) {cs : List Nat} (h : Jn n 0 cs = true) : ∃ v, ZT (XG 3) (Qr (YA 2 (eOp 3) (Qq QT (eOp 0) (Qd (Qq Xg (eOp 3) (Qd (Qb (.int 1))))))) (Qr (YA 2 (Qd (Qq Xg (eOp 3) (Qd (Qb (.int 1))))) (Qq QT (eOp 0) (eOp 3))) QF)) (nD cs) [some (.sh (.tup (iL a))), some (.sh dch), some (.ow true (.list (iL a))), none] = .ok .next [some (.sh (.tup (iL a))), some (.sh dch), some (.ow true (.list (iL (rung a cs)))), v] := by
 obtain ⟨ρ', h1, f, cs', v, lo, rfl, hd, hf, hr, hc, hg⟩ := Ob (b := XG 3) (sf := (Qr (YA 2 (eOp 3) (Qq QT (eOp 0) (Qd (Qq Xg (eOp 3) (Qd (Qb (.int 1))))))) (Qr (YA 2 (Qd (Qq Xg (eOp 3) (Qd (Qb (.int 1))))) (Qq QT (eOp 0) (eOp 3))) QF))) (fun ρ ds => ∃ (f : List Int) (cs' : List Nat) (v : Option T) (lo : Nat), ρ = [some (.sh (.tup (iL a))), some (.sh dch), some (.ow true (.list (iL f))), v] ∧ ds = nD cs' ∧ f.length = n ∧ rung f cs' = rung a cs ∧ Jn n lo cs' = true ∧ ∀ i, lo ≤ i → f[i]? = a[i]?) (by
  rintro ρ d ds ⟨f, cs', v, lo, rfl, hd, hf, hr, hc, hg⟩
  cases cs' with
  | nil => cases hd
  | cons p r =>
   cases hd
   rw [Jn] at hc
   simp only [Bool.and_eq_true, decide_eq_true_eq] at hc
   have hp1 : p + 1 < f.length := by rw [hf]; exact hc.1.2
   have hp1a : p + 1 < a.length := by rw [ha]; exact hc.1.2
   have hp0 : p < f.length := Nat.lt_of_succ_lt hp1
   have hb : p + 1 ≤ 1000 := Nat.le_trans (Nat.le_of_succ_le hc.1.2) (Eh hn)
   have hlf : (iL f).length ≤ 1000000 := by rw [QI, hf]; exact Dg hn
   have e1 : QT (.tup (iL a)) (.int ((p : Int) + 1)) = some (.sh (.int (a.getD (p + 1) 0))) := Bs (p := p + 1) hb (Ky hp1a)
   have e2 : QT (.tup (iL a)) (.int p) = some (.sh (.int (a.getD p 0))) := Bs (Nat.le_of_succ_le hb) (Ky (Nat.lt_of_succ_lt hp1a))
   have e3 : (0 : Int) ≤ p ∧ (p : Int) < ((iL f).length : Int) := ⟨Int.natCast_nonneg p, by rw [QI]; exact Int.ofNat_lt.mpr hp0⟩
   have e4 : (0 : Int) ≤ (p : Int) + 1 ∧ (p : Int) + 1 < (((iL f).set (p : Int).toNat (.int (a.getD (p + 1) 0))).length : Int) := ⟨Int.natCast_nonneg (p + 1), by rw [List.length_set, QI]; exact Int.ofNat_lt.mpr hp1⟩
   have e5 : ((iL f).set (p : Int).toNat (.int (a.getD (p + 1) 0))).length ≤ 1000000 := by rw [List.length_set]; exact hlf
   have ep : a.getD p 0 = f.getD p 0 := by rw [List.getD_eq_getElem?_getD, List.getD_eq_getElem?_getD, hg p hc.1.1]
   have eq : a.getD (p + 1) 0 = f.getD (p + 1) 0 := by rw [List.getD_eq_getElem?_getD, List.getD_eq_getElem?_getD, hg (p + 1) (Nat.le_succ_of_le hc.1.1)]
   refine ⟨[some (.sh (.tup (iL a))), some (.sh dch), some (.ow true (.list (iL f))), some (.sh (.int p))], [some (.sh (.tup (iL a))), some (.sh dch), some (.ow true (.list (((iL f).set (p : Int).toNat (.int (a.getD (p + 1) 0))).set ((p : Int) + 1).toNat (.int (a.getD p 0))))), some (.sh (.int p))], rfl, ?_, swap f p, r, some (.sh (.int p)), p + 2, ?_, rfl, by rw [WX]; exact hf, hr, hc.2, ?_⟩
   ·repeat' (first|(with_reducible first|assumption|exact Q3|exact XF|exact Y5|exact QG|apply Yg|exact QD|apply Xi|apply Zq|apply Xp|apply Qs|apply Qt|apply CT|apply Ho|apply Hr|apply HR)|exact (rfl : Qj _ = true)|exact (rfl : (_ : Option _) = some _)|decide)
   ·rw [Fh, Fh, show ((p : Int) + 1).toNat = p + 1 from rfl, Int.toNat_natCast, ep, eq]; rfl
   ·intro i hi
    rw [Fp hp1, if_neg (Nat.ne_of_gt (Nat.lt_of_succ_lt hi)), if_neg (Nat.ne_of_gt hi)]
    exact hg i (Nat.le_trans hc.1.1 (Nat.le_of_lt (Nat.lt_of_succ_lt hi)))) (nD cs) _ ⟨a, cs, none, 0, rfl, rfl, ha, rfl, h, fun i _ => rfl⟩
 have : cs' = [] := List.map_eq_nil_iff.mp hd.symm
 subst this
 have hr' : f = rung a cs := hr
 subst hr'
 exact ⟨v, h1⟩
theorem WP (K : Frag) {n : Nat} {a : List Int} (ha : a.length = n) (hn : n ≤ 12) {cs : List Nat} (h : Jn n 0 cs = true) : Ji K [.tup (iL a), .tup (nD cs)] = .ok (.sh (.tup (iL (rung a cs)))) := by
 obtain ⟨v, h1⟩ := V4 K (dch := .tup (nD cs)) ha hn h
 have e1 : ZH [.tup (iL a)] = some (.ow true (.list (iL a))) := V6 (by rw [QI]; omega)
 have e2 := Yr (ds := iL (rung a cs)) (by rw [QI, W4]; omega)
 have e3 : Zt (.tup (nD cs)) = some (nD cs) := rfl
 unfold Ji Kq
 refine' Xj [some (.sh (.tup (iL a))), some (.sh (.tup (nD cs))), none, none] rfl rfl ?_ XD
 repeat' (first|(with_reducible first|assumption|exact Q3|exact Y5|exact Qu|apply Qo|apply Qn|apply QL|apply XB|apply Qt|apply Q6|apply Xf|apply Zn|apply Ht|apply HP|apply HW|apply HZ|apply H1|apply HR|exact HS)|exact (rfl : Qj _ = true)|exact Xk rfl|exact (rfl : (_ : Option _) = some _)|decide)
theorem D6 {f : List Int} {p : Nat} (h : p + 1 < f.length) : f.take p ++ [f.getD (p + 1) 0, f.getD p 0] ++ f.drop (p + 2) = swap f p := by
 induction p generalizing f with
 | zero =>
  match f, h with
  | x :: y :: l, _ => rfl
 | succ p ih =>
  match f, h with
  | x :: l, h =>
   have : swap (x :: l) (p + 1) = x :: swap l p := by unfold swap; simp
   rw [this, ← ih (by simpa using h)]
   rfl
theorem E2 {f : List Int} {p : Nat} (h : p + 1 < f.length) : (iL f).take p ++ [.int (f.getD (p + 1) 0), .int (f.getD p 0)] ++ (iL f).drop (p + 2) = iL (swap f p) := by
 rw [← D6 h]
 unfold iL
 simp
theorem DS (K : Frag) {n : Nat} {a : List Int} {da dch : D} (ha : a.length = n) (hn : n ≤ 12) {cs : List Nat} (h : Jn n 0 cs = true) : ∃ v, ZT (XG 3) (Qr (Qy 2 (Qq Xg (Qd (Qq Xg (Qd (ZS (eOp 2) ZA (YT (eOp 3)))) (Qd (XV (Qp (Qq QT (eOp 2) (Qd (Qq Xg (eOp 3) (Qd (Qb (.int 1)))))) (Qp (Qq QT (eOp 2) (eOp 3)) Xd)))))) (Qd (ZS (eOp 2) (YT (Qd (Qq Xg (eOp 3) (Qd (Qb (.int 2)))))) ZA)))) QF) (nD cs) [some (.sh da), some (.sh dch), some (.ow true (.list (iL a))), none] = .ok .next [some (.sh da), some (.sh dch), some (.ow true (.list (iL (rung a cs)))), v] := by
 obtain ⟨ρ', h1, f, cs', v, lo, rfl, hd, hf, hr, hc⟩ := Ob (b := XG 3) (sf := (Qr (Qy 2 (Qq Xg (Qd (Qq Xg (Qd (ZS (eOp 2) ZA (YT (eOp 3)))) (Qd (XV (Qp (Qq QT (eOp 2) (Qd (Qq Xg (eOp 3) (Qd (Qb (.int 1)))))) (Qp (Qq QT (eOp 2) (eOp 3)) Xd)))))) (Qd (ZS (eOp 2) (YT (Qd (Qq Xg (eOp 3) (Qd (Qb (.int 2)))))) ZA)))) QF)) (fun ρ ds => ∃ (f : List Int) (cs' : List Nat) (v : Option T) (lo : Nat), ρ = [some (.sh da), some (.sh dch), some (.ow true (.list (iL f))), v] ∧ ds = nD cs' ∧ f.length = n ∧ rung f cs' = rung a cs ∧ Jn n lo cs' = true) (by
  rintro ρ d ds ⟨f, cs', v, lo, rfl, hd, hf, hr, hc⟩
  cases cs' with
  | nil => cases hd
  | cons p r =>
   cases hd
   rw [Jn] at hc
   simp only [Bool.and_eq_true, decide_eq_true_eq] at hc
   have hl : (iL f).length = n := by rw [QI]; exact hf
   have hp2 : p + 2 ≤ n := hc.1.2
   have hp1 : p + 1 < f.length := by rw [hf]; exact hp2
   have hb : p + 1 ≤ 1000 := Nat.le_trans (Nat.le_of_succ_le hp2) (Eh hn)
   have hlb : (iL f).length ≤ 1000000 := by rw [hl]; exact Dg hn
   have hpn : p ≤ (iL f).length := by rw [hl]; exact Nat.le_trans (Nat.le_add_right p 2) hp2
   have e1 : QT (.list (iL f)) (.int ((p : Int) + 1)) = some (.sh (.int (f.getD (p + 1) 0))) := VD (p := p + 1) hb (Ky hp1)
   have e2 : QT (.list (iL f)) (.int p) = some (.sh (.int (f.getD p 0))) := VD (Nat.le_of_succ_le hb) (Ky (Nat.lt_of_succ_lt hp1))
   have e3 : YB (.list (iL f)) none (some (p : Int)) = some (.ow true (.list ((iL f).take p))) := by rw [UR hlb, EK hpn]
   have e4 : YB (.list (iL f)) (some ((p : Int) + 2)) none = some (.ow true (.list ((iL f).drop (p + 2)))) := by
    rw [UR hlb, show ((p : Int) + 2) = ((p + 2 : Nat) : Int) from rfl, OF (by rw [hl]; exact hp2)]
   have l1 : ((iL f).take p).length = p := by rw [List.length_take]; exact Nat.min_eq_left hpn
   have l2 : ((iL f).drop (p + 2)).length = n - (p + 2) := by rw [List.length_drop, hl]
   have e5 : Xg (.list ((iL f).take p)) (.list [.int (f.getD (p + 1) 0), .int (f.getD p 0)]) = some (.ow true (.list ((iL f).take p ++ [.int (f.getD (p + 1) 0), .int (f.getD p 0)]))) := Up (by rw [l1]; exact Nat.le_trans hp2 (Dg hn))
   have e6 : Xg (.list ((iL f).take p ++ [.int (f.getD (p + 1) 0), .int (f.getD p 0)])) (.list ((iL f).drop (p + 2))) = some (.ow true (.list (iL (swap f p)))) := by
    rw [Up (by rw [l2, List.length_append, l1]; show p + 2 + (n - (p + 2)) ≤ 1000000; rw [Nat.add_sub_cancel' hp2]; exact Dg hn), E2 hp1]
   refine ⟨[some (.sh da), some (.sh dch), some (.ow true (.list (iL f))), some (.sh (.int p))], [some (.sh da), some (.sh dch), some (.ow true (.list (iL (swap f p)))), some (.sh (.int p))], rfl, ?_, swap f p, r, _, p + 2, rfl, rfl, by rw [WX]; exact hf, hr, hc.2⟩
   repeat' (first|(with_reducible first|assumption|exact Q3|exact Z6|exact XF|exact Y5|exact QG|exact X5|apply X6|exact QX|exact U4|exact QD|apply Xi|apply Zq|apply Xs|apply Xp|apply Qs|apply QM|apply XU|apply Kg|apply UJ|apply Qt|apply Xf|apply Ho|apply Hs|apply Hr|apply Hx|apply Hy|apply HA|apply HZ|apply HR)|exact (rfl : Qj _ = true)|exact (rfl : (_ : Option _) = some _)|decide)) (nD cs) _ ⟨a, cs, none, 0, rfl, rfl, ha, rfl, h⟩
 have : cs' = [] := List.map_eq_nil_iff.mp hd.symm
 subst this
 have hr' : f = rung a cs := hr
 subst hr'
 exact ⟨v, h1⟩
theorem Wp (K : Frag) {n : Nat} {a : List Int} (ha : a.length = n) (hn : n ≤ 12) {cs : List Nat} (h : Jn n 0 cs = true) : Yp K [.tup (iL a), .tup (nD cs)] = .ok (.sh (.tup (iL (rung a cs)))) := by
 obtain ⟨v, h1⟩ := DS K (da := .tup (iL a)) (dch := .tup (nD cs)) ha hn h
 have e1 : ZH [.tup (iL a)] = some (.ow true (.list (iL a))) := V6 (by rw [QI]; omega)
 have e2 := Yr (ds := iL (rung a cs)) (by rw [QI, W4]; omega)
 have e3 : Zt (.tup (nD cs)) = some (nD cs) := rfl
 unfold Yp Wz
 refine' Xj [some (.sh (.tup (iL a))), some (.sh (.tup (nD cs))), none, none] rfl rfl ?_ XD
 repeat' (first|(with_reducible first|assumption|exact Q3|exact Y5|exact Qu|apply Qo|apply Qn|apply QL|apply XB|apply Qt|apply Q6|apply Xf|apply Zn|apply Ht|apply HP|apply HW|apply HZ|apply H1|apply HR|exact HS)|exact (rfl : Qj _ = true)|exact Xk rfl|exact (rfl : (_ : Option _) = some _)|decide)
theorem BG (K : Frag) (c : Int) (n : Nat) (h3 : 3 ≤ n) (h12 : n ≤ 12) : ∃ r, (OS 1000 (Q9 ltI (eOp 3) (Qd (Qq Oy (eOp 1) (Qd (Qb (.int 1)))))) (Qr (sIf (Q9 gtI (Qd (Qq X4 (Qd (Qq YW (Qd (QV (XN K) (Qa (eOp 0) (Qa (eOp 3) Qm)))) (Qd (Qb (.int 5))))) (Qd (Qb (.int 3))))) (Qd (Qb (.int 0)))) (Qr (Zb (Qd (ZP 2 (XM 3)))) (Qr (Qy 3 (Qq Xg (eOp 3) (Qd (Qb (.int 1))))) QF)) QF) (Qr (Qy 3 (Qq Xg (eOp 3) (Qd (Qb (.int 1))))) QF))) [some (.sh (.int c)), some (.sh (.int n)), some (.ow true (.list [])), some (.sh (.int 0))] = r ∧ ∃ cs v, r = .ok .next [some (.sh (.int c)), some (.sh (.int n)), some (.ow true (.list (nD cs))), v] ∧ Jn n 0 cs = true := by
 refine B8 (fun m ρ => ∃ (cs : List Nat) (p : Nat), ρ = [some (.sh (.int c)), some (.sh (.int n)), some (.ow true (.list (nD cs))), some (.sh (.int p))] ∧ m = 100 - p ∧ p ≤ n ∧ cs.length ≤ p ∧ (∀ r, Jn n p r = true → Jn n 0 (cs ++ r) = true)) (fun r => ∃ cs v, r = .ok .next [some (.sh (.int c)), some (.sh (.int n)), some (.ow true (.list (nD cs))), v] ∧ Jn n 0 cs = true) ?_ 1000 100 _ ⟨[], 0, rfl, rfl, Nat.zero_le _, Nat.zero_le _, fun r h => h⟩ (by decide)
 rintro m ρ ⟨cs, p, rfl, rfl, hp, hl, hc⟩
 have e0 : (Oy (.int n) (.int 1)) = some (.sh (.int ((n : Int) - 1))) := rfl
 by_cases hpn : (p : Int) < (n : Int) - 1
 ·right
  have e1 := C7 hpn
  have e2 := Z8 K c p (J5 (by omega))
  have e3 : X4 (.int ((mix c p).fdiv 5)) (.int 3) = some (.sh (.int (((mix c p).fdiv 5).fmod 3))) := XW (by decide)
  generalize ((mix c p).fdiv 5).fmod 3 = z at e3
  have hl' : (nD cs).length ≤ 1000000 := by rw [Ct]; omega
  by_cases hz : 0 < z
  ·have e4 := Gc hz
   refine ⟨[some (.sh (.int c)), some (.sh (.int n)), some (.ow true (.list (nD cs))), some (.sh (.int p))], .ok .next [some (.sh (.int c)), some (.sh (.int n)), some (.ow true (.list (nD cs ++ [.int p]))), some (.sh (.int ((p : Int) + 1 + 1)))], ?_, ?_, 100 - (p + 2), by omega, cs ++ [p], p + 2, ?_, rfl, by omega, by simp; omega, ?_⟩
   ·repeat' (first|(with_reducible first|assumption|exact Q3|exact XF|exact Y5|exact UZ|exact QG|exact Qu|apply Qo|apply Yg|exact Xl|exact QD|apply Qn|apply QC|apply Xi|apply Xs|apply Xz|apply QS|apply Qs|apply Qw|apply Z2|apply Qt|apply Q7|apply Xb|apply Xf|apply XW|apply XY|apply Ho|apply Hs|apply Hr|apply Hu|apply Hv|apply HI|apply HJ|apply HX|apply HZ|apply HR|apply HU|apply HV)|exact QR rfl|exact (rfl : Qj _ = true)|exact Xk rfl|exact (rfl : (_ : Option _) = some _)|decide)
   ·repeat' (first|(with_reducible first|assumption|exact Q3|exact XF|exact Y5|exact UZ|exact QG|exact Qu|apply Qo|apply Yg|exact Xl|exact QD|apply Qn|apply QC|apply Xi|apply Xs|apply Xz|apply QS|apply Qs|apply Qw|apply Z2|apply Qt|apply Q7|apply Xb|apply Xf|apply XW|apply XY|apply Ho|apply Hs|apply Hr|apply Hu|apply Hv|apply HI|apply HJ|apply HX|apply HZ|apply HR|apply HU|apply HV)|exact QR rfl|exact (rfl : Qj _ = true)|exact Xk rfl|exact (rfl : (_ : Option _) = some _)|decide)
   ·rw [show ((p : Int) + 1 + 1) = ((p + 2 : Nat) : Int) from rfl]
    unfold nD; rw [List.map_append]; rfl
   ·intro r hr
    rw [List.append_assoc]
    refine hc _ ?_
    show (decide _ && decide _ && Jn n (p + 2) r) = true
    rw [hr, decide_eq_true (Nat.le_refl _), decide_eq_true (by omega)]; rfl
  ·have e4 := B3 hz
   refine ⟨[some (.sh (.int c)), some (.sh (.int n)), some (.ow true (.list (nD cs))), some (.sh (.int p))], .ok .next [some (.sh (.int c)), some (.sh (.int n)), some (.ow true (.list (nD cs))), some (.sh (.int ((p : Int) + 1)))], ?_, ?_, 100 - (p + 1), by omega, cs, p + 1, ?_, rfl, by omega, by omega, ?_⟩
   ·repeat' (first|(with_reducible first|assumption|exact Q3|exact XF|exact Y5|exact UZ|exact QG|exact Qu|apply Qo|apply Yg|exact Xl|exact QD|apply Qn|apply QC|apply Xi|apply Xs|apply Xz|apply QS|apply Qs|apply Qw|apply Z2|apply Qt|apply Q7|apply Xb|apply Xf|apply XW|apply XY|apply Ho|apply Hs|apply Hr|apply Hu|apply Hv|apply HI|apply HJ|apply HX|apply HZ|apply HR|apply HU|apply HV)|exact QR rfl|exact (rfl : Qj _ = true)|exact Xk rfl|exact (rfl : (_ : Option _) = some _)|decide)
   ·repeat' (first|(with_reducible first|assumption|exact Q3|exact XF|exact Y5|exact UZ|exact QG|exact Qu|apply Qo|apply Yg|exact Xl|exact QD|apply Qn|apply QC|apply Xi|apply Xs|apply Xz|apply QS|apply Qs|apply Qw|apply Z2|apply Qt|apply Q7|apply Xb|apply Xf|apply XW|apply XY|apply Ho|apply Hs|apply Hr|apply Hu|apply Hv|apply HI|apply HJ|apply HX|apply HZ|apply HR|apply HU|apply HV)|exact QR rfl|exact (rfl : Qj _ = true)|exact Xk rfl|exact (rfl : (_ : Option _) = some _)|decide)
   ·rfl
   ·intro r hr
    refine hc r ?_
    cases r with
    | nil => rfl
    | cons q r =>
     rw [Jn] at hr ⊢
     simp only [Bool.and_eq_true, decide_eq_true_eq] at hr ⊢
     exact ⟨⟨by omega, hr.1.2⟩, hr.2⟩
 ·left
  have e1 := Dh hpn
  refine ⟨[some (.sh (.int c)), some (.sh (.int n)), some (.ow true (.list (nD cs))), some (.sh (.int p))], ?_, cs, _, rfl, ?_⟩
  ·repeat' (first|(with_reducible first|assumption|exact Q3|exact XF|exact Y5|exact UZ|exact QG|exact Qu|apply Qo|apply Yg|exact Xl|exact QD|apply Qn|apply QC|apply Xi|apply Xs|apply Xz|apply QS|apply Qs|apply Qw|apply Z2|apply Qt|apply Q7|apply Xb|apply Xf|apply XW|apply XY|apply Ho|apply Hs|apply Hr|apply Hu|apply Hv|apply HI|apply HJ|apply HX|apply HZ|apply HR|apply HU|apply HV)|exact QR rfl|exact (rfl : Qj _ = true)|exact Xk rfl|exact (rfl : (_ : Option _) = some _)|decide)
  ·have := hc [] rfl
   rwa [List.append_nil] at this
theorem Dx (cs : List Nat) : eqI (.list (nD cs)) (.list []) = some (.sh (.bool (decide (cs = [])))) := by
 have := BT (cs.map fun (p : Nat) => (p : Int)) []
 rw [← F8] at this
 rw [show (D.list (iL [])) = .list [] from rfl] at this
 rw [this]
 congr 3
 unfold eqB
 exact decide_eq_decide.mpr List.map_eq_nil_iff
theorem Y8 (K : Frag) (c : Int) (n : Nat) (h3 : 3 ≤ n) (h12 : n ≤ 12) : ∃ cs, XS K [.int c, .int n] = .ok (.sh (.tup (nD cs))) ∧ Change n cs := by
 obtain ⟨r, h1, cs, v, rfl, hc⟩ := BG K c n h3 h12
 have e1 := Dx cs
 have hl := Oi hc (Nat.zero_le _)
 by_cases hz : cs = []
 ·subst hz
  rw [decide_eq_true rfl] at e1
  have e2 := Z8 K c 20 (J5 (by decide))
  obtain ⟨p, hp, hpn⟩ := US (mix c 20) (n := n - 1) (by omega)
  have e0 : (Oy (.int n) (.int 1)) = some (.sh (.int ((n : Int) - 1))) := rfl
  have e3 : X4 (.int (mix c 20)) (.int ((n : Int) - 1)) = some (.sh (.int p)) := by rw [XW (by omega), show ((n : Int) - 1) = ((n - 1 : Nat) : Int) by omega, hp]
  refine ⟨[p], ?_, by simp, ?_⟩
  ·have e4 : Yz [.list [.int p]] = some (.sh (.tup (nD [p]))) := Yr (ds := [.int p]) (by simp)
   unfold XS Jg
   refine' Xj [some (.sh (.int c)), some (.sh (.int n)), none, none] rfl rfl ?_ XD
   repeat' (first|(with_reducible first|assumption|exact Q3|exact Z6|exact XF|exact Y5|exact UZ|exact QG|exact Qu|apply Qo|exact X5|apply X6|exact Q0|exact QX|exact QD|exact QQ|apply Qn|apply QC|apply Xi|apply Xs|apply Xz|apply Qs|apply QL|apply Qw|apply QM|apply XU|apply Qt|apply Q7|apply Q6|apply Xf|apply XW|apply Ho|apply Hs|apply Hr|apply Ht|apply Hu|apply Hv|apply Hx|apply Hy|apply HA|apply HI|apply HW|apply HZ|apply HR|exact HS|apply HU|apply HV)|exact QR rfl|exact (rfl : Qj _ = true)|exact (rfl : (_ : Option _) = some _)|decide)
  ·show (decide _ && decide _ && true) = true
   rw [decide_eq_true (Nat.zero_le _), decide_eq_true (by omega)]; rfl
 ·rw [decide_eq_false hz] at e1
  refine ⟨cs, ?_, hz, hc⟩
  have e4 := Yr (ds := nD cs) (by rw [Ct]; omega)
  unfold XS Jg
  refine' Xj [some (.sh (.int c)), some (.sh (.int n)), none, none] rfl rfl ?_ XD
  repeat' (first|(with_reducible first|assumption|exact Q3|exact Z6|exact XF|exact Y5|exact UZ|exact QG|exact Qu|apply Qo|exact X5|apply X6|exact Q0|exact QX|exact QD|exact QQ|apply Qn|apply QC|apply Xi|apply Xs|apply Xz|apply Qs|apply QL|apply Qw|apply QM|apply XU|apply Qt|apply Q7|apply Q6|apply Xf|apply XW|apply Ho|apply Hs|apply Hr|apply Ht|apply Hu|apply Hv|apply Hx|apply Hy|apply HA|apply HI|apply HW|apply HZ|apply HR|exact HS|apply HU|apply HV)|exact QR rfl|exact (rfl : Qj _ = true)|exact (rfl : (_ : Option _) = some _)|decide)
structure ExcI (K : Frag) (C : Addr) (i : Nat) : Prop where
 e1 : QK K [.exc C, .glob (.ref 37)] = some (.sh (.bool (i == 0)))
 e2 : QK K [.exc C, .glob (.ref 49)] = some (.sh (.bool (i == 1)))
 e3 : QK K [.exc C, .glob (.ref 61)] = some (.sh (.bool (i == 2)))
 e4 : QK K [.exc C, .glob (.ref 73)] = some (.sh (.bool (i == 3)))
 e5 : QK K [.exc C, .glob (.ref 85)] = some (.sh (.bool (i == 4)))
 e6 : QK K [.exc C, .glob (.ref 97)] = some (.sh (.bool (i == 5)))
 e7 : QK K [.exc C, .glob (.ref 109)] = some (.sh (.bool (i == 6)))
 e8 : QK K [.exc C, .glob (.type "ValueError")] = some (.sh (.bool true))
 m : (W.mroIn K C (.ref 24) == some true) = true
noncomputable def WD : Nat → Str
 | 0 => "bells"
 | 1 => "row"
 | 2 => "change"
 | 3 => "method"
 | 4 => "call"
 | 5 => "count"
 | _ => "text"
noncomputable def told (x : Str) : T := .ow true (.list [.str "refused", .str x])
noncomputable def By (i : Nat) : List D := [.tup [.str "bells", .bool (i == 0)], .tup [.str "row", .bool (i == 1)], .tup [.str "change", .bool (i == 2)], .tup [.str "method", .bool (i == 3)], .tup [.str "call", .bool (i == 4)], .tup [.str "count", .bool (i == 5)], .tup [.str "text", .bool (i == 6)]]
theorem DR (K : Frag) (C : Addr) (i : Nat) (hi : i < 7) (h : ExcI K C i) : YG (Y6 [1, 2]) (KI (Xm (eOp 2)) (KI (Xm (Qd (Xc (QK K) (Qa (eOp 3) (Qa (Qd (Qb (.glob (.type "ValueError")))) Qm))))) Ul)) (XM 1) [none, none, none, some (.sh (.exc C))] (By i) [] = some [.str (WD i)] := by
 have := WI (b := Y6 [1, 2]) (t := KI (Xm (eOp 2)) (KI (Xm (Qd (Xc (QK K) (Qa (eOp 3) (Qa (Qd (Qb (.glob (.type "ValueError")))) Qm))))) Ul)) (f := XM 1) (ρ₀ := [none, none, none, some (.sh (.exc C))]) (q := fun d => match d with | .tup [_, .bool b] => b | _ => false) (g := fun d => match d with | .tup [x, _] => x | _ => .none) (By i) [] (fun d hd => ?_) (by simp [By])
 ·rw [this]
  have : i = 0 ∨ i = 1 ∨ i = 2 ∨ i = 3 ∨ i = 4 ∨ i = 5 ∨ i = 6 := by omega
  rcases this with rfl | rfl | rfl | rfl | rfl | rfl | rfl <;> rfl
 ·have : ∃ x b, d = .tup [.str x, .bool b] := by
   simp only [By, List.mem_cons, List.not_mem_nil, or_false] at hd
   rcases hd with rfl | rfl | rfl | rfl | rfl | rfl | rfl <;> exact ⟨_, _, rfl⟩
  obtain ⟨x, b, rfl⟩ := this
  have e8 := h.e8
  refine ⟨[none, some (.sh (.str x)), some (.sh (.bool b)), some (.sh (.exc C))], [none, some (.sh (.str x)), some (.sh (.bool b)), some (.sh (.exc C))], rfl, ?_, fun _ => ⟨.sh (.str x), _, rfl, rfl⟩⟩
  cases b with
  | true => show _ = Res.ok true _; repeat' (first|(with_reducible first|assumption|exact Q3|exact QG|exact Qu|apply Qo|exact Vz|exact QQ|apply QC|apply Xp|apply Qs|apply QL|apply Qz|apply O6|apply Ho|apply Ht|apply Hv|apply HB|apply HE|exact HF)|exact (rfl : Qj _ = true)|exact (rfl : (_ : Option _) = some _)|decide)
  | false => show _ = Res.ok false _; repeat' (first|(with_reducible first|assumption|exact Q3|exact QG|exact Qu|apply Qo|exact Vz|exact QQ|apply QC|apply Xp|apply Qs|apply QL|apply Qz|apply O6|apply Ho|apply Ht|apply Hv|apply HB|apply HE|exact HF)|exact (rfl : Qj _ = true)|exact (rfl : (_ : Option _) = some _)|decide)
theorem J0 (K : Frag) (C : Addr) (i : Nat) (hi : i < 7) (h : ExcI K C i) : Yn K [.exc C] = .ok (told (WD i)) := by
 have hc := DR K C i hi h
 generalize WD i = w at hc
 obtain ⟨e1, e2, e3, e4, e5, e6, e7, e8, m⟩ := h
 unfold By at hc
 generalize (i == 0) = b0 at *
 generalize (i == 1) = b1 at *
 generalize (i == 2) = b2 at *
 generalize (i == 3) = b3 at *
 generalize (i == 4) = b4 at *
 generalize (i == 5) = b5 at *
 generalize (i == 6) = b6 at *
 have a1 : Xg (.list [.tup [.str "bells", .bool b0], .tup [.str "row", .bool b1], .tup [.str "change", .bool b2]]) (.list [.tup [.str "method", .bool b3], .tup [.str "call", .bool b4]]) = some (.ow true (.list [.tup [.str "bells", .bool b0], .tup [.str "row", .bool b1], .tup [.str "change", .bool b2], .tup [.str "method", .bool b3], .tup [.str "call", .bool b4]])) := rfl
 have a2 : Xg (.list [.tup [.str "bells", .bool b0], .tup [.str "row", .bool b1], .tup [.str "change", .bool b2], .tup [.str "method", .bool b3], .tup [.str "call", .bool b4]]) (.list [.tup [.str "count", .bool b5], .tup [.str "text", .bool b6]]) = some (.ow true (.list [.tup [.str "bells", .bool b0], .tup [.str "row", .bool b1], .tup [.str "change", .bool b2], .tup [.str "method", .bool b3], .tup [.str "call", .bool b4], .tup [.str "count", .bool b5], .tup [.str "text", .bool b6]])) := rfl
 have a3 : YK [.list [.str w]] = some (.sh (.int 1)) := XE (by simp)
 have a4 := B7 1
 unfold Yn WC told
 refine' Xj [some (.sh (.exc C)), none, none] rfl rfl ?_ XD
 repeat' (first|(with_reducible first|assumption|exact Q3|exact Z6|exact F9|exact GN|exact Y5|exact QG|exact Qu|apply Qo|exact Wq|apply Uj|apply Dj|exact G3|exact X5|apply X6|exact Xl|exact Q0|exact QX|exact QQ|apply Qn|apply QC|apply Xi|apply Zq|apply QS|apply Qs|apply QL|apply QM|apply Zc|apply XU|apply XB|apply Jx|apply Qt|apply Q7|apply Q6|apply Xf|apply Ho|apply Hr|apply Ht|apply Hv|apply Hx|apply Hy|apply Hz|apply HA|apply HI|apply HJ|apply HP|apply HW|apply HZ|apply HR|exact HS|apply HU|exact il0)|exact (rfl : Qj _ = true)|apply Ye rfl|exact (rfl : (_ : Option _) = some _)|decide)
theorem DF : PyData.strOk "change" = true := by decide +kernel
theorem DK : PyData.strOk "method" = true := by decide +kernel
theorem FR : PyData.strOk "call" = true := by decide +kernel
theorem Oe (x : Str) (hx : PyData.strOk x = true) : neI (.list [.str "refused", .str x]) (.list [.str "refused", .str x]) = some (.sh (.bool false)) := Ks (BU x "refused" hx OQ)
theorem Ft (x : Str) (hx : PyData.strOk x = true) : eqI (.list [.str "refused", .str x]) (.list [.str "refused", .str x]) = some (.sh (.bool true)) := OX (BU x "refused" hx OQ)
end Mine
end

section
set_option Elab.async false
set_option maxRecDepth 100000
set_option maxHeartbeats 4000000
set_option linter.unusedSimpArgs false
set_option linter.unusedVariables false
namespace Mine
open PySem PySem.W
noncomputable def Q8 (l : List (List Int)) : List D := l.map fun a => D.tup (iL a)
noncomputable def chD (chs : List (List Nat)) : List D := chs.map fun c => D.tup (nD c)
noncomputable def XH (a : List Int) : List (List Nat) → List (List Int)
 | [] => [a]
 | c :: cs => a :: XH (rung a c) cs
theorem Dt (chs : List (List Nat)) : ∀ a, (XH a chs).length = chs.length + 1 := by
 induction chs with
 | nil => intro a; rfl
 | cons c cs ih => intro a; rw [XH, List.length_cons, ih, List.length_cons]
theorem J6 (l : List (List Int)) : (Q8 l).length = l.length := by unfold Q8; simp
structure Chs (n : Nat) (chs : List (List Nat)) : Prop where
 h3 : 3 ≤ n
 h12 : n ≤ 12
 len : chs.length ≤ 30
 all : ∀ c ∈ chs, Change n c
noncomputable def mth (n : Nat) (chs ws : List (List Nat)) : D := .obj 210 ["bells", "steps", "ways"] [.int n, .list (chD chs), .list (chD ws)]
theorem W6 {l : List (List Int)} {a : List Int} (hl : l.length ≤ 1000) : QT (.list (Q8 (l ++ [a]))) (.int (-1)) = some (.sh (.tup (iL a))) := by
 have := DL (ds := Q8 l) (d := .tup (iL a)) (by rw [J6]; exact hl)
 rw [show Q8 (l ++ [a]) = Q8 l ++ [.tup (iL a)] from List.map_append]
 exact this
theorem Vw (l : List (List Int)) (a : List Int) : Q8 l ++ [.tup (iL a)] = Q8 (l ++ [a]) := by unfold Q8; rw [List.map_append]; rfl
theorem DY (K : Frag) {n : Nat} {dself dhead : D} (hn : n ≤ 12) (chs : List (List Nat)) : (∀ c ∈ chs, Change n c) → chs.length ≤ 100 → ∀ (pre : List (List Int)) (a : List Int) (v : Option T), a.length = n → pre.length + chs.length ≤ 200 →
  ∃ v', ZT (XG 3) (Qr (Zb (Qd (ZP 2 (QV (Ji K) (Qa (Qd (Qq QT (eOp 2) (Qd (Wv Us (Qd (Qb (.int 1))))))) (Qa (eOp 3) Qm)))))) QF) (chD chs) [some (.sh dself), some (.sh dhead), some (.ow true (.list (Q8 (pre ++ [a])))), v] = .ok .next [some (.sh dself), some (.sh dhead), some (.ow true (.list (Q8 (pre ++ XH a chs)))), v'] := by
 induction chs with
 | nil => intro hc hl pre a v ha hp; exact ⟨v, rfl⟩
 | cons c cs ih =>
  intro hc hl pre a v ha hp
  rw [List.length_cons] at hl hp
  have hcc := hc c (.head _)
  have e1 := WP K ha hn hcc.ok
  have e2 := W6 (l := pre) (a := a) (by omega)
  have hlen : (Q8 (pre ++ [a])).length ≤ 1000000 := by rw [J6, List.length_append]; simp; omega
  have e3 : Us (.int 1) = some (.sh (.int (-1))) := rfl
  obtain ⟨v', h⟩ := ih (fun x hx => hc x (.tail _ hx)) (by omega) (pre ++ [a]) (rung a c) (some (.sh (.tup (nD c)))) (by rw [W4]; exact ha) (by rw [List.length_append]; simp; omega)
  refine ⟨v', ?_⟩
  rw [show XH a (c :: cs) = [a] ++ XH (rung a c) cs from rfl, ← List.append_assoc]
  rw [← Vw (pre ++ [a])] at h
  show ZT _ _ (D.tup (nD c) :: chD cs) _ = _
  repeat' (first|(with_reducible first|assumption|exact Q3|exact Y5|exact UZ|exact QG|exact Qu|apply Qo|apply Yg|exact Xl|exact QD|apply Qn|apply QJ|apply Zq|apply Qs|apply Qw|apply Ut|apply Z2|apply Qt|apply Xb|apply Ho|apply Hq|apply Hr|apply Hu|apply Hv|apply Hw|apply HX|apply HR|apply X8|apply Z0|apply H3)|exact QR rfl|exact (rfl : Qj _ = true)|exact (rfl : (_ : Option _) = some _)|decide)
theorem Vf (K : Frag) {n : Nat} {dhead dinner : D} (hn : n ≤ 12) (chs : List (List Nat)) : (∀ c ∈ chs, Change n c) → chs.length ≤ 100 → ∀ (pre : List (List Int)) (a : List Int) (v : Option T), a.length = n → pre.length + chs.length ≤ 200 →
  ∃ v', ZT (XG 3) (Qr (Zb (Qd (ZP 2 (QV (Yp K) (Qa (Qd (Qq QT (eOp 2) (Qd (Wv Us (Qd (Qb (.int 1))))))) (Qa (eOp 3) Qm)))))) QF) (chD chs) [some (.sh dhead), some (.sh dinner), some (.ow true (.list (Q8 (pre ++ [a])))), v] = .ok .next [some (.sh dhead), some (.sh dinner), some (.ow true (.list (Q8 (pre ++ XH a chs)))), v'] := by
 induction chs with
 | nil => intro hc hl pre a v ha hp; exact ⟨v, rfl⟩
 | cons c cs ih =>
  intro hc hl pre a v ha hp
  rw [List.length_cons] at hl hp
  have hcc := hc c (.head _)
  have e1 := Wp K ha hn hcc.ok
  have e2 := W6 (l := pre) (a := a) (by omega)
  have hlen : (Q8 (pre ++ [a])).length ≤ 1000000 := by rw [J6, List.length_append]; simp; omega
  have e3 : Us (.int 1) = some (.sh (.int (-1))) := rfl
  obtain ⟨v', h⟩ := ih (fun x hx => hc x (.tail _ hx)) (by omega) (pre ++ [a]) (rung a c) (some (.sh (.tup (nD c)))) (by rw [W4]; exact ha) (by rw [List.length_append]; simp; omega)
  refine ⟨v', ?_⟩
  rw [show XH a (c :: cs) = [a] ++ XH (rung a c) cs from rfl, ← List.append_assoc]
  rw [← Vw (pre ++ [a])] at h
  show ZT _ _ (D.tup (nD c) :: chD cs) _ = _
  repeat' (first|(with_reducible first|assumption|exact Q3|exact Y5|exact UZ|exact QG|exact Qu|apply Qo|apply Yg|exact Xl|exact QD|apply Qn|apply QJ|apply Zq|apply Qs|apply Qw|apply Ut|apply Z2|apply Qt|apply Xb|apply Ho|apply Hq|apply Hr|apply Hu|apply Hv|apply Hw|apply HX|apply HR|apply X8|apply Z0|apply H3)|exact QR rfl|exact (rfl : Qj _ = true)|exact (rfl : (_ : Option _) = some _)|decide)
theorem Om (K : Frag) {n : Nat} {a : List Int} {chs ws : List (List Nat)} (ra : Row n a) : QH K [mth n chs ws, .tup (iL a)] = .ok (.sh .none) := by
 have e1 := WN K ra
 have e2 := J9 (ds := iL a) (by rw [QI, ra.len]; have := ra.h12; omega)
 rw [QI, ra.len] at e2
 have e3 := EL (n : Int)
 unfold QH X7
 refine' Xj [some (.sh (mth n chs ws)), some (.sh (.tup (iL a)))] rfl rfl ?_ WQ
 unfold mth
 repeat' (first|(with_reducible first|assumption|exact Q3|exact QG|exact Qu|apply Qo|exact Ud|exact Q1|exact QD|apply Qn|apply QS|apply Qs|apply QL|apply Qw|apply Qz|apply Q2|apply Xy|apply Qt|apply Q7|apply X9|apply Ho|apply Ht|apply Hu|apply HB|apply HI|apply HJ|exact HC|apply HH|apply HR|apply HV)|exact QR rfl|exact (rfl : Qj _ = true)|exact (rfl : (_ : Option _) = some _)|decide)
theorem Yl (K : Frag) {n : Nat} {d : D} {chs ws : List (List Nat)} (h : ZE K [d] = .ok (.sh (.bool false))) : QH K [mth n chs ws, d] = .exc 49 := by
 unfold QH X7
 refine' Xj [some (.sh (mth n chs ws)), some (.sh d)] rfl rfl ?_ YR
 unfold mth
 repeat' (first|(with_reducible first|assumption|exact Q3|exact QG|exact Qu|apply Qo|exact X5|apply X6|exact Q0|exact QX|apply Qn|apply Qs|apply Qw|apply QM|apply Qz|apply Q2|apply Xy|apply Qt|apply Q7|apply XK|apply Ho|apply Hu|apply Hx|apply Hy|apply HB|exact HD|exact HG|exact HT|apply HU)|exact QR rfl|exact (rfl : Qj _ = true)|exact (rfl : (_ : Option _) = some _)|decide)
theorem K4 (K : Frag) {n : Nat} {ds : List D} {chs ws : List (List Nat)} (h : ZE K [.tup ds] = .ok (.sh (.bool true))) (hl : ds.length ≤ 1000000) (hn : ds.length ≠ n) : QH K [mth n chs ws, .tup ds] = .exc 49 := by
 have e2 := J9 (ds := ds) hl
 have e3 := GZ (a := (ds.length : Int)) (b := (n : Int)) (by omega)
 unfold QH X7
 refine' Xj [some (.sh (mth n chs ws)), some (.sh (.tup ds))] rfl rfl ?_ YR
 unfold mth
 repeat' (first|(with_reducible first|assumption|exact Q3|exact QG|exact Qu|apply Qo|exact X5|apply X6|exact Ud|exact Q0|exact QX|apply Qn|apply QS|apply Qs|apply QL|apply Qw|apply QM|apply Qz|apply Q2|apply Xy|apply Qt|apply Q7|apply XK|apply X9|apply Ho|apply Ht|apply Hu|apply Hx|apply Hy|apply HB|apply HI|apply HJ|exact HC|exact HG|apply HH|exact HT|apply HU)|exact QR rfl|exact (rfl : Qj _ = true)|exact (rfl : (_ : Option _) = some _)|decide)
theorem KA (K : Frag) {n : Nat} {a : List Int} {chs ws : List (List Nat)} (ra : Row n a) (hc : Chs n chs) : XI K [mth n chs ws, .tup (iL a)] = .ok (.ow true (.list (Q8 (XH a chs)))) := by
 have e1 := Om K (chs := chs) (ws := ws) ra
 obtain ⟨v', h⟩ := DY K (dself := mth n chs ws) (dhead := .tup (iL a)) ra.h12 chs hc.all (by have := hc.len; omega) [] a none ra.len (by have := hc.len; simp; omega)
 have h : ZT (XG 3) _ (chD chs) [some (.sh (mth n chs ws)), some (.sh (.tup (iL a))), some (.ow true (.list [.tup (iL a)])), none] = .ok .next [some (.sh (mth n chs ws)), some (.sh (.tup (iL a))), some (.ow true (.list (Q8 (XH a chs)))), v'] := h
 have e2 : Zt (.list (chD chs)) = some (chD chs) := rfl
 unfold XI YQ
 refine' Xj [some (.sh (mth n chs ws)), some (.sh (.tup (iL a))), none, none] rfl rfl ?_ XD
 unfold mth at *
 repeat' (first|(with_reducible first|assumption|exact Q3|exact Y5|exact Qu|apply Qo|exact X5|apply X6|exact Jb|exact QX|apply Qn|apply Qs|apply QM|apply XU|apply XB|apply Qt|apply Xb|apply Xf|apply Zn|apply X9|apply ZO|apply Ho|apply Hx|apply Hy|apply HA|apply HP|apply HX|apply HZ|apply H1|apply HR|exact HS|apply H5)|exact QR rfl|exact (rfl : Qj _ = true)|exact Xk rfl|exact Vu rfl|exact (rfl : (_ : Option _) = some _)|decide)
theorem OI (K : Frag) {n : Nat} {d : D} {chs ws : List (List Nat)} (h : QH K [mth n chs ws, d] = .exc 49) : XI K [mth n chs ws, d] = .exc 49 := by
 unfold XI YQ
 refine' Xj [some (.sh (mth n chs ws)), some (.sh d), none, none] rfl rfl ?_ YR
 unfold mth at *
 repeat' (first|(with_reducible first|assumption|exact Qu|apply Qo|exact UH|apply Qn|apply Qs|apply Qt|apply Xb|apply ZO|exact Hp|exact HY|exact HT|apply H5)|exact (rfl : Qj _ = true)|exact (rfl : (_ : Option _) = some _)|decide)
theorem O9 (K : Frag) {n : Nat} {a : List Int} {chs : List (List Nat)} (ha : a.length = n) (hc : Chs n chs) : Ui K [.tup (iL a), .list (chD chs)] = .ok (.ow true (.list (Q8 (XH a chs)))) := by
 obtain ⟨v', h⟩ := Vf K (dhead := .tup (iL a)) (dinner := .list (chD chs)) hc.h12 chs hc.all (by have := hc.len; omega) [] a none ha (by have := hc.len; simp; omega)
 have h : ZT (XG 3) _ (chD chs) [some (.sh (.tup (iL a))), some (.sh (.list (chD chs))), some (.ow true (.list [.tup (iL a)])), none] = .ok .next [some (.sh (.tup (iL a))), some (.sh (.list (chD chs))), some (.ow true (.list (Q8 (XH a chs)))), v'] := h
 have e2 : Zt (.list (chD chs)) = some (chD chs) := rfl
 unfold Ui WF
 refine' Xj [some (.sh (.tup (iL a))), some (.sh (.list (chD chs))), none, none] rfl rfl ?_ XD
 repeat' (first|(with_reducible first|assumption|exact Q3|exact Y5|exact X5|apply X6|exact QX|apply QM|apply XU|apply XB|apply Qt|apply Xf|apply Zn|apply Hx|apply Hy|apply HA|apply HP|apply HZ|apply H1|apply HR|exact HS)|exact (rfl : Qj _ = true)|exact Xk rfl|exact Vu rfl|exact (rfl : (_ : Option _) = some _)|decide)
theorem Gn {ρ : AEnv} (h : Yc ρ = true) : Z7 [] ρ = some [] := if_pos h
theorem VP {ρ ρ₁ : AEnv} {n : Str} {f : AEnv → Res T} {fs : List (Str × (AEnv → Res T))} {t : T} {d : D} {ds : List D} (h : Yc ρ = true) (hf : f ρ = .ok t ρ₁) (hv : t.val = d) (hr : Z7 fs ρ₁ = some ds) (hnw : EV t = true := by rfl) : Z7 ((n, f) :: fs) ρ = some (d :: ds) := by
 subst hv
 refine (if_pos h).trans ?_
 conv => lhs; rw [hf]
 refine (if_pos hnw).trans ?_
 rw [hr]; rfl
theorem EP {n : Nat} {is : List Nat} {i₀ : Nat} {f : AEnv → Res Fl} {ts : List (Str × (AEnv → Res T))} {x : Addr} {ds es : List D} {ρ ρ₁ : AEnv} (hl : ds.length + 1 = is.length) (hi : Wg n is (.glob (.ref x) :: ds) = ρ) (h : f ρ = .ok .next ρ₁) (hs : ρ₁[i₀]? = some (some (.sh (.glob (.ref x))))) (ht : Z7 ts ρ₁ = some es) : VB n is i₀ f ts x ds = .ok es := by
 subst hi
 refine (if_pos hl).trans ?_
 conv => lhs; whnf; rw [h]; whnf; rw [hs]
 refine (if_pos rfl).trans ?_
 conv => lhs; rw [ht]
theorem QP (l : List (List Nat)) : (chD l).length = l.length := by unfold chD; simp
theorem Ea (K : Frag) {n : Nat} (h12 : n ≤ 12) {a b c : D} {chs : List (List Nat)} (h : ∀ x ∈ chs, Change n x) : ∀ v₀, FP v₀ = true → ∃ v, FP v = true ∧ ZT (XG 4) (Qr (Zb (Qd (QV (QW K) (Qa (eOp 1) (Qa (eOp 4) Qm))))) QF) (chD chs) [some (.sh a), some (.sh (.int n)), some (.sh b), some (.sh c), v₀] = .ok .next [some (.sh a), some (.sh (.int n)), some (.sh b), some (.sh c), v] := by
 induction chs with
 | nil => intro v₀ hv; exact ⟨v₀, hv, rfl⟩
 | cons x xs ih =>
  intro v₀ _
  have e1 := Ua K (h x (.head _)) h12
  obtain ⟨v, h1, h2⟩ := ih (fun y hy => h y (.tail _ hy)) (some (.sh (.tup (nD x)))) rfl
  refine ⟨v, h1, ?_⟩
  show ZT _ _ (D.tup (nD x) :: chD xs) _ = _
  repeat' (first|(with_reducible first|assumption|exact Q3|exact KC|exact Qu|apply Qo|exact QD|apply Qn|apply QC|apply Qs|apply Qw|apply Qt|apply Xb|apply Ho|apply Hu|apply Hv|apply HX|apply HR|apply X8|apply Z0|apply H3)|exact QR rfl|exact (rfl : Qj _ = true)|exact (rfl : (_ : Option _) = some _)|decide)
theorem Zs (K : Frag) (ds : List D) : QK K [.list ds, .glob (.type "list")] = some (.sh (.bool true)) := by kernel_rfl
theorem ZC {ds : List D} (h : ds.length ≤ 1000000) : ZH [.list ds] = some (.ow true (.list ds)) := FK h
theorem Bx (K : Frag) {n : Nat} {chs ws : List (List Nat)} (hc : Chs n chs) (hw : ∀ c ∈ ws, Change n c) (h1 : 1 ≤ ws.length) (h4 : ws.length ≤ 4) : JH (Xx K) [.int n, .list (chD chs), .list (chD ws)] = .ok [.int n, .list (chD chs), .list (chD ws)] := by
 refine Uc fun x => ?_
 have e1 := Zf K n (by have := hc.h3; omega) (by have := hc.h12; omega)
 have e2 := Zs K (chD chs)
 have e3 := Zs K (chD ws)
 have e4 := XE (ds := chD chs) (by rw [QP]; have := hc.len; omega)
 have e5 := XE (ds := chD ws) (by rw [QP]; omega)
 rw [QP] at e4 e5
 have e6 := B3 (a := (chs.length : Int)) (b := 30) (by have := hc.len; omega)
 have e7 := Jz (a := 1) (b := (ws.length : Int)) (by omega)
 have e8 := Jz (a := (ws.length : Int)) (b := 4) (by omega)
 have e9 : Xg (.list (chD chs)) (.list (chD ws)) = some (.ow true (.list (chD (chs ++ ws)))) := by
  rw [Up (by rw [QP, QP]; have := hc.len; omega)]
  unfold chD; rw [List.map_append]
 obtain ⟨v, hv, h⟩ := Ea K (a := .glob (.ref x)) (b := .list (chD chs)) (c := .list (chD ws)) hc.h12 (chs := chs ++ ws) (fun c hcm => (List.mem_append.mp hcm).elim (hc.all c) (hw c)) none rfl
 have e10 : Zt (.list (chD (chs ++ ws))) = some (chD (chs ++ ws)) := rfl
 have e11 := ZC (ds := chD chs) (by rw [QP]; have := hc.len; omega)
 have e12 := ZC (ds := chD ws) (by rw [QP]; omega)
 have sh : Yc [some (.sh (.glob (.ref x))), some (.sh (.int n)), some (.sh (.list (chD chs))), some (.sh (.list (chD ws))), v] = true := by
  show (true && (true && (true && (true && (FP v && true))))) = true
  rw [hv]; rfl
 unfold Xx XQ XR
 refine' EP (ρ := [some (.sh (.glob (.ref x))), some (.sh (.int n)), some (.sh (.list (chD chs))), some (.sh (.list (chD ws))), none]) (ρ₁ := [some (.sh (.glob (.ref x))), some (.sh (.int n)), some (.sh (.list (chD chs))), some (.sh (.list (chD ws))), v]) rfl rfl ?_ rfl ?_
 ·repeat' (first|(with_reducible first|assumption|exact Q3|exact Z6|exact QG|exact Qu|apply Qo|exact Xl|exact Q1|exact QD|exact QQ|apply Qn|apply QC|apply Zq|apply QS|apply Xp|apply Qs|apply QL|apply Qw|apply Qz|apply Q2|apply Xy|apply XC|apply XB|apply Qt|apply Q7|apply Xb|apply Zn|apply Ho|apply Hr|apply Ht|apply Hu|apply Hv|apply HB|apply HI|apply HJ|apply HK|apply HN|apply HO|apply HP|apply HX|apply H1|exact HC|apply HH|apply HL|apply HR|apply HV)|exact QR rfl|exact (rfl : Qj _ = true)|exact Xk rfl|exact (rfl : (_ : Option _) = some _)|decide)
 ·refine' VP sh (ρ₁ := [some (.sh (.glob (.ref x))), some (.sh (.int n)), some (.sh (.list (chD chs))), some (.sh (.list (chD ws))), v]) ?_ Q3 (VP sh (ρ₁ := [some (.sh (.glob (.ref x))), some (.sh (.int n)), some (.sh (.list (chD chs))), some (.sh (.list (chD ws))), v]) ?_ Z6 (VP sh (ρ₁ := [some (.sh (.glob (.ref x))), some (.sh (.int n)), some (.sh (.list (chD chs))), some (.sh (.list (chD ws))), v]) ?_ Z6 (Gn sh)))
  ·exact Xk rfl
  ·repeat' (first|(with_reducible first|assumption|exact Q3|exact Z6|exact QG|exact Qu|apply Qo|exact Xl|exact Q1|exact QD|exact QQ|apply Qn|apply QC|apply Zq|apply QS|apply Xp|apply Qs|apply QL|apply Qw|apply Qz|apply Q2|apply Xy|apply XC|apply XB|apply Qt|apply Q7|apply Xb|apply Zn|apply Ho|apply Hr|apply Ht|apply Hu|apply Hv|apply HB|apply HI|apply HJ|apply HK|apply HN|apply HO|apply HP|apply HX|apply H1|exact HC|apply HH|apply HL|apply HR|apply HV)|exact QR rfl|exact (rfl : Qj _ = true)|exact Xk rfl|exact (rfl : (_ : Option _) = some _)|decide)
  ·repeat' (first|(with_reducible first|assumption|exact Q3|exact Z6|exact QG|exact Qu|apply Qo|exact Xl|exact Q1|exact QD|exact QQ|apply Qn|apply QC|apply Zq|apply QS|apply Xp|apply Qs|apply QL|apply Qw|apply Qz|apply Q2|apply Xy|apply XC|apply XB|apply Qt|apply Q7|apply Xb|apply Zn|apply Ho|apply Hr|apply Ht|apply Hu|apply Hv|apply HB|apply HI|apply HJ|apply HK|apply HN|apply HO|apply HP|apply HX|apply H1|exact HC|apply HH|apply HL|apply HR|apply HV)|exact QR rfl|exact (rfl : Qj _ = true)|exact Xk rfl|exact (rfl : (_ : Option _) = some _)|decide)
theorem Ep {m : Nat} (h : m ≤ 1000) : Zt (.range 0 m 1) = some (nL (List.range' 0 m)) := by
 rw [Kw m (by omega)]
 unfold iL rng nL
 rw [List.map_map, ← List.range_eq_range']; rfl
noncomputable def tp (a : List Int) : PyData := .tuple (a.map .int)
theorem Ba (a : List Int) : Kt (.tup (iL a)) = some (tp a) := GS (OJ a)
theorem JA : ∀ l : List (List Int), Yu (Q8 l) = some (l.map tp)
 | [] => rfl
 | a :: l => by
  show Yu (D.tup (iL a) :: Q8 l) = _
  exact Oo (Ba a) (JA l)
theorem Er (a b : List Int) : PyData.eqv (tp a) (tp b) = decide (a = b) := KN a b
theorem Kx (a : List Int) : SeqAt.shaped (tp a) = true := Ci a
theorem UU : ∀ l : List (List Int), PyData.canLayAll0 (l.map tp) = true
 | [] => by simp [PyData.canLayAll0]
 | a :: l => by
  have := SeqAt.canLay_of_shaped (Kx a)
  simp [PyData.canLayAll0, this, UU l]
theorem Uf : ∀ l : List (List Int), PyData.depthAll (l.map tp) ≤ 2
 | [] => by simp [PyData.depthAll]
 | a :: l => by
  have h1 := Uf l
  have h2 := Wt a
  simp [PyData.depthAll, PyData.depth, tp]; omega
theorem KP (l : List (List Int)) : SeqAt.shaped (.list (l.map tp)) = true := by
 have := Uf l
 unfold SeqAt.shaped
 simp [PyData.canLay0, UU, PyData.depth]; omega
theorem FY {n : Nat} (h3 : 3 ≤ n) (h12 : n ≤ 12) : Row n (rng n) := ⟨.refl _, h3, h12⟩
noncomputable def DI (K : Frag) (c : Int) (n : Nat) : List Nat := by
 classical exact if h : 3 ≤ n ∧ n ≤ 12 then Classical.choose (Y8 K c n h.1 h.2) else []
theorem CY (K : Frag) (c : Int) {n : Nat} (h3 : 3 ≤ n) (h12 : n ≤ 12) : XS K [.int c, .int n] = .ok (.sh (.tup (nD (DI K c n)))) ∧ Change n (DI K c n) := by
 unfold DI
 rw [dif_pos ⟨h3, h12⟩]
 exact Classical.choose_spec (Y8 K c n h3 h12)
noncomputable def Vm (a : List Int) (chs : List (List Nat)) : List Int := chs.foldl rung a
theorem BO (chs : List (List Nat)) : ∀ a, ∃ pre, XH a chs = pre ++ [Vm a chs] ∧ pre.length = chs.length := by
 induction chs with
 | nil => intro a; exact ⟨[], rfl, rfl⟩
 | cons c cs ih =>
  intro a
  obtain ⟨pre, h1, h2⟩ := ih (rung a c)
  exact ⟨a :: pre, by rw [XH, h1]; rfl, by rw [List.length_cons, h2, List.length_cons]⟩
theorem BE {n : Nat} (chs : List (List Nat)) : ∀ {a : List Int}, (∀ c ∈ chs, Change n c) → Row n a → Row n (Vm a chs) := by
 induction chs with
 | nil => intro a _ r; exact r
 | cons c cs ih => intro a h r; exact ih (fun x hx => h x (.tail _ hx)) (r.rung (h c (.head _)).ok)
noncomputable def aft (a : List Int) (chs : List (List Nat)) (w : List Nat) : List Int := rung (Vm a chs) w
structure Mth (n : Nat) (chs ws : List (List Nat)) : Prop where
 c : Chs n chs
 w : ∀ c ∈ ws, Change n c
 l : ws.length ≤ 4
theorem Oh (K : Frag) {n : Nat} {chs ws : List (List Nat)} {c : Nat} (hc : c < ws.length) (h4 : ws.length ≤ 4) : Xr K [mth n chs ws, .int c] = .ok (.sh .none) := by
 have e1 : Zj K [.int (c : Int)] = .ok (.sh (.bool true)) := ZI K _ rfl
 have e2 := XE (ds := chD ws) (by rw [QP]; omega)
 rw [QP] at e2
 have e3 := Jz (a := 0) (b := (c : Int)) (by omega)
 have e4 := C7 (a := (c : Int)) (b := (ws.length : Int)) (by omega)
 unfold Xr Zx
 refine' Xj [some (.sh (mth n chs ws)), some (.sh (.int c))] rfl rfl ?_ WQ
 unfold mth
 repeat' (first|(with_reducible first|assumption|exact Q3|exact QG|exact Qu|apply Qo|exact Jb|exact Xl|exact Q5|exact Q1|exact QD|apply Qn|apply QJ|apply Xp|apply Qs|apply QL|apply Qw|apply Qz|apply Q2|apply Xy|apply XC|apply Qt|apply Q7|apply X9|apply Ho|apply Ht|apply Hu|apply Hv|apply Hw|apply HB|apply HK|apply HN|apply HO|exact HC|apply HH|apply HL|apply HR|apply HV)|exact QR rfl|exact (rfl : Qj _ = true)|exact (rfl : (_ : Option _) = some _)|decide)
theorem Zd (K : Frag) {n : Nat} {chs ws : List (List Nat)} {d : D} (hd : Ka d = true) (h : ∀ i, d = .int i → ¬ (0 ≤ i ∧ i < ws.length)) (h4 : ws.length ≤ 4) : Xr K [mth n chs ws, d] = .exc 85 := by
 have e1 := ZI K d hd
 have e2 := XE (ds := chD ws) (by rw [QP]; omega)
 rw [QP] at e2
 unfold Xr Zx
 refine' Xj [some (.sh (mth n chs ws)), some (.sh d)] rfl rfl ?_ YR
 unfold mth
 cases hw : isW d with
 | false =>
  rw [hw] at e1
  repeat' (first|(with_reducible first|assumption|exact Q3|exact QG|exact Qu|apply Qo|exact X5|apply X6|exact Jb|exact Xl|exact Q0|exact Q5|exact QX|apply Qn|apply QJ|apply Xp|apply Qs|apply QL|apply Qw|apply QM|apply Qz|apply Q2|apply Xy|apply XC|apply Qt|apply Q7|apply XK|apply X9|apply Ho|apply Ht|apply Hu|apply Hv|apply Hw|apply Hx|apply Hy|apply HB|apply HK|apply HN|apply HO|exact HC|exact HD|exact HG|apply HH|apply HL|exact HM|exact HT|apply HU)|exact QR rfl|exact (rfl : Qj _ = true)|exact (rfl : (_ : Option _) = some _)|decide)
 | true =>
  rw [hw] at e1
  obtain ⟨i, rfl⟩ : ∃ i, d = .int i := by
   cases d <;> first | exact ⟨_, rfl⟩ | cases hw
  have hi := h i rfl
  by_cases h0 : 0 ≤ i
  ·have e3 := Jz h0
   have e4 := Dh (a := i) (b := (ws.length : Int)) (fun q => hi ⟨h0, q⟩)
   repeat' (first|(with_reducible first|assumption|exact Q3|exact QG|exact Qu|apply Qo|exact X5|apply X6|exact Jb|exact Xl|exact Q0|exact Q5|exact QX|apply Qn|apply QJ|apply Xp|apply Qs|apply QL|apply Qw|apply QM|apply Qz|apply Q2|apply Xy|apply XC|apply Qt|apply Q7|apply XK|apply X9|apply Ho|apply Ht|apply Hu|apply Hv|apply Hw|apply Hx|apply Hy|apply HB|apply HK|apply HN|apply HO|exact HC|exact HD|exact HG|apply HH|apply HL|exact HM|exact HT|apply HU)|exact QR rfl|exact (rfl : Qj _ = true)|exact (rfl : (_ : Option _) = some _)|decide)
  ·have e3 := WY h0
   repeat' (first|(with_reducible first|assumption|exact Q3|exact QG|exact Qu|apply Qo|exact X5|apply X6|exact Jb|exact Xl|exact Q0|exact Q5|exact QX|apply Qn|apply QJ|apply Xp|apply Qs|apply QL|apply Qw|apply QM|apply Qz|apply Q2|apply Xy|apply XC|apply Qt|apply Q7|apply XK|apply X9|apply Ho|apply Ht|apply Hu|apply Hv|apply Hw|apply Hx|apply Hy|apply HB|apply HK|apply HN|apply HO|exact HC|exact HD|exact HG|apply HH|apply HL|exact HM|exact HT|apply HU)|exact QR rfl|exact (rfl : Qj _ = true)|exact (rfl : (_ : Option _) = some _)|decide)
theorem En {ws : List (List Nat)} {c : Nat} {w : List Nat} (hw : ws[c]? = some w) (h4 : ws.length ≤ 4) : QT (.list (chD ws)) (.int c) = some (.sh (.tup (nD w))) := by
 have := (List.getElem?_eq_some_iff.mp hw).1
 refine Jk (by omega) (by omega) ?_
 rw [Int.toNat_natCast]
 unfold chD
 rw [List.getElem?_map, hw]; rfl
theorem Cp (K : Frag) {n : Nat} {a : List Int} {chs ws : List (List Nat)} {c : Nat} {w : List Nat} (hm : Mth n chs ws) (ra : Row n a) (hw : ws[c]? = some w) : Xu K [mth n chs ws, .tup (iL a), .int c] = .ok (.sh (.tup (iL (aft a chs w)))) := by
 have l1 := KA K (ws := ws) ra hm.c
 obtain ⟨pre, p1, p2⟩ := BO chs a
 rw [p1] at l1
 have e1 := W6 (l := pre) (a := Vm a chs) (by have := hm.c.len; omega)
 have e2 := Oh K (n := n) (chs := chs) (List.getElem?_eq_some_iff.mp hw).1 hm.l
 have e3 := En hw hm.l
 have e4 := WP K (a := Vm a chs) (BE chs hm.c.all ra).len ra.h12 (hm.w w (List.mem_of_getElem? hw)).ok
 have e5 : Us (.int 1) = some (.sh (.int (-1))) := rfl
 unfold aft Xu ZW
 refine' Xj [some (.sh (mth n chs ws)), some (.sh (.tup (iL a))), some (.sh (.int c)), none] rfl rfl ?_ XD
 unfold mth at *
 repeat' (first|(with_reducible first|assumption|exact Q3|exact UZ|exact QG|exact Qu|apply Qo|exact Jb|exact Xl|exact Q5|apply Qn|apply QJ|apply Zq|apply Xs|apply Xp|apply Qs|apply Qw|apply Ut|apply Qt|apply Q6|apply Xb|apply Xf|apply X9|apply ZO|apply Ho|apply Hq|apply Hs|apply Hr|apply Hu|apply Hv|apply Hw|apply HW|apply HX|apply HZ|apply HR|exact HS|apply H5)|exact QR rfl|exact (rfl : Qj _ = true)|exact (rfl : (_ : Option _) = some _)|decide)
theorem C4 (p r : Nat) : nL (List.range' p (r + 1)) = D.int (p : Nat) :: nL (List.range' (p + 1) r) := rfl
theorem Cd {a b : Nat} (hab : a ≤ b) (hb : b ≤ 1000) : Zt (.range a b 1) = some (nL (List.range' a (b - a))) := by
 have h1 : Builtin.Range.rangeSize (a : Int) (b : Int) 1 = ((b - a : Nat) : Int) := by
  rw [rangeSize_one]; split <;> omega
 have h2 : ZF (a : Int) (b : Int) 1 = true := by
  unfold ZF
  rw [small_one (by omega) (by omega) (by omega) (by omega), h1]
  simp only [Bool.true_and, Bool.and_eq_true, decide_eq_true_eq]
  constructor <;> omega
 rw [Bl h2]
 unfold Uq WG nL
 rw [h1, Int.toNat_natCast, List.range'_eq_map_range, List.map_map]
 refine congrArg some (List.map_congr_left fun i _ => ?_)
 show D.int ((a : Int) + (i : Int) * 1) = D.int ((a + i : Nat) : Int)
 rw [Int.mul_one]; rfl
theorem Vn (K : Frag) (c : Int) : ∃ m : Nat, m ≤ 30 ∧ Un K [.int c] = .ok (.sh (.int m)) := by
 obtain ⟨p, hp1, hp2⟩ := US (c.fdiv 8) (n := 23) (by decide)
 obtain ⟨r, hr1, hr2⟩ := US (c.fdiv 8) (n := 8) (by decide)
 have d1 : X4 (.int (c.fdiv 8)) (.int 23) = some (.sh (.int p)) := by rw [XW (by decide)]; rw [show (c.fdiv 8).fmod 23 = p from hp1]
 have d2 : X4 (.int (c.fdiv 8)) (.int 8) = some (.sh (.int r)) := by rw [XW (by decide)]; rw [show (c.fdiv 8).fmod 8 = r from hr1]
 unfold Un Wy
 by_cases h : c.fmod 8 = 1
 ·have q1 : eqI (.int (c.fmod 8)) (.int 1) = some (.sh (.bool true)) := by rw [h]; exact B7 1
  have q2 : Xg (.int 8) (.int p) = some (.sh (.int ((8 + p : Nat) : Int))) := rfl
  refine ⟨8 + p, by omega, ?_⟩
  refine' Xj [some (.sh (.int c))] rfl rfl ?_ XD
  repeat' (first|(with_reducible first|assumption|exact Q3|exact XF|exact QG|exact Xl|exact QD|apply VK|apply Xi|apply Xs|apply QS|apply Qs|apply Qt|apply Q7|apply Q6|apply XW|apply XY|apply Ho|apply Hs|apply Hr|apply HI|apply HJ|apply HW|apply HR|exact HS|apply HU|apply HV)|exact (rfl : Qj _ = true)|exact (rfl : (_ : Option _) = some _)|decide)
 ·have q1 := BV h
  refine ⟨r, by omega, ?_⟩
  refine' Xj [some (.sh (.int c))] rfl rfl ?_ XD
  repeat' (first|(with_reducible first|assumption|exact Q3|exact XF|exact QG|exact Xl|exact QD|apply VK|apply Xi|apply Xs|apply QS|apply Qs|apply Qt|apply Q7|apply Q6|apply XW|apply XY|apply Ho|apply Hs|apply Hr|apply HI|apply HJ|apply HW|apply HR|exact HS|apply HU|apply HV)|exact (rfl : Qj _ = true)|exact (rfl : (_ : Option _) = some _)|decide)
theorem Fy (j m : Nat) (hm : m ≠ 0) : X4 (.int (j : Int)) (.int m) = some (.sh (.int ((j % m : Nat) : Int))) := by
 rw [XW (by omega)]; congr 3; rw [Int.fmod_eq_emod_of_nonneg _ (by omega)]; rfl
theorem F0 (j m : Nat) (hm : m ≠ 0) (hs : m ≤ 1000) : YW (.int (j : Int)) (.int m) = some (.sh (.int ((j / m : Nat) : Int))) := by
 rw [XY (by constructor <;> omega)]; congr 3; rw [Int.fdiv_eq_ediv_of_nonneg _ (by omega)]; rfl
theorem FE (l : List (List Nat)) (c : List Nat) : chD l ++ [.tup (nD c)] = chD (l ++ [c]) := by unfold chD; rw [List.map_append]; rfl
theorem CL (K : Frag) {n st : Nat} {ns : List Int} {x3 : D} (hl : ns.length ≤ 63) (h3 : 3 ≤ n) (h12 : n ≤ 12) : ∀ (m j : Nat) (chs : List (List Nat)) (v : Option T), (∀ c ∈ chs, Change n c) → j + m ≤ 100 → chs.length + m ≤ 100 → ∃ chs' v', chs'.length = chs.length + m ∧ (∀ c ∈ chs', Change n c) ∧
  ZT (XG 5) (Qr (Zb (Qd (ZP 4 (QV (XS K) (Qa (Qd (QV (XN K) (Qa (Qd (QV (XO K) (Qa (eOp 0) (Qa (Qd (Qq Xg (Qd (Qq Xg (eOp 1) (Qd (Qb (.int 2))))) (Qd (Qq X4 (eOp 5) (Qd (Qb (.int 6))))))) Qm)))) (Qa (Qd (Qq YW (eOp 5) (Qd (Qb (.int 6))))) Qm)))) (Qa (eOp 2) Qm)))))) QF) (nL (List.range' j m)) [some (.sh (.list (iL ns))), some (.sh (.int st)), some (.sh (.int n)), some (.sh x3), some (.ow true (.list (chD chs))), v, none, none] = .ok .next [some (.sh (.list (iL ns))), some (.sh (.int st)), some (.sh (.int n)), some (.sh x3), some (.ow true (.list (chD chs'))), v', none, none] := by
 intro m
 induction m with
 | zero => intro j chs v h _ _; exact ⟨chs, v, rfl, h, rfl⟩
 | succ m ih =>
  intro j chs v h hj hlen
  have e1 : X4 (.int (j : Int)) (.int 6) = some (.sh (.int ((j % 6 : Nat) : Int))) := Fy j 6 (by decide)
  have e2 : YW (.int (j : Int)) (.int 6) = some (.sh (.int ((j / 6 : Nat) : Int))) := F0 j 6 (by decide) (by decide)
  have e3 : Xg (.int (st : Int)) (.int 2) = some (.sh (.int ((st + 2 : Nat) : Int))) := rfl
  have e4 : Xg (.int ((st + 2 : Nat) : Int)) (.int ((j % 6 : Nat) : Int)) = some (.sh (.int ((st + 2 + j % 6 : Nat) : Int))) := rfl
  have e5 := Yh K ns (st + 2 + j % 6) hl
  have e6 := Z8 K (ns.getD (st + 2 + j % 6) 0) ((j / 6 : Nat) : Int) (J5 (by omega))
  obtain ⟨c, e7, hc⟩ := Y8 K (mix (ns.getD (st + 2 + j % 6) 0) ((j / 6 : Nat) : Int)) n h3 h12
  have e8 : (chD chs).length ≤ 1000000 := by rw [QP]; omega
  obtain ⟨chs', v', q1, q2, q3⟩ := ih (j + 1) (chs ++ [c]) (some (.sh (.int j))) (fun x hx => by
   rcases List.mem_append.mp hx with hx | hx
   ·exact h x hx
   ·rw [List.mem_singleton.mp hx]; exact hc) (by omega) (by rw [List.length_append]; simp; omega)
  refine ⟨chs', v', by rw [q1, List.length_append]; simp; omega, q2, ?_⟩
  rw [← FE] at q3
  rw [C4]
  repeat' (first|(with_reducible first|assumption|exact Q3|exact XF|exact KC|exact YF|exact QG|exact Qu|apply Qo|apply Yg|exact Q5|exact QD|apply Qn|apply QC|apply QJ|apply Xi|apply Xs|apply Qs|apply Qw|apply Z2|apply Qt|apply Xb|apply Ho|apply Hs|apply Hr|apply Hu|apply Hv|apply Hw|apply HX|apply HR|apply X8|apply Z0|apply H3)|exact QR rfl|exact (rfl : Qj _ = true)|exact (rfl : (_ : Option _) = some _)|decide)
theorem CD (K : Frag) {n m : Nat} {c : Int} (h3 : 3 ≤ n) (h12 : n ≤ 12) (hm : m ≤ 4) : ∃ ws, ws.length = m ∧ (∀ x ∈ ws, Change n x) ∧ YG (XG 1) Bc (QV (XS K) (Qa (Qd (QV (XN K) (Qa (eOp 3) (Qa (Qd (Qq Xg (Qd (Qb (.int 30))) (eOp 1))) Qm)))) (Qa (eOp 2) Qm))) [none, none, some (.sh (.int n)), some (.sh (.int c))] (iL (rng m)) [] = some (chD ws) := by
 refine ⟨(List.range m).map fun (j : Nat) => DI K (mix c (30 + (j : Int))) n, by simp, fun x hx => ?_, ?_⟩
 ·obtain ⟨j, _, rfl⟩ := List.mem_map.mp hx
  exact (CY K _ h3 h12).2
 ·have := KD (b := XG 1) (f := (QV (XS K) (Qa (Qd (QV (XN K) (Qa (eOp 3) (Qa (Qd (Qq Xg (Qd (Qb (.int 30))) (eOp 1))) Qm)))) (Qa (eOp 2) Qm)))) (ρ₀ := [none, none, some (.sh (.int n)), some (.sh (.int c))]) (g := fun d => match d with | .int k => .tup (nD (DI K (mix c (30 + k)) n)) | _ => .none) (iL (rng m)) (fun d hd => ?_) (by rw [QI, ZY]; omega)
  ·rw [this]
   unfold iL rng chD
   rw [List.map_map, List.map_map, List.map_map]
   congr 1
  ·obtain ⟨k, hk, rfl⟩ := List.mem_map.mp hd
   have hk' := C9.mp hk
   have e2 : Xg (.int 30) (.int k) = some (.sh (.int (30 + k))) := rfl
   have e5 := Z8 K c (30 + k) (J5 (by omega))
   have e6 := (CY K (mix c (30 + k)) h3 h12).1
   refine ⟨[none, some (.sh (.int k)), some (.sh (.int n)), some (.sh (.int c))], .sh (.tup (nD (DI K (mix c (30 + k)) n))), [none, some (.sh (.int k)), some (.sh (.int n)), some (.sh (.int c))], rfl, ?_, rfl⟩
   repeat' (first|(with_reducible first|assumption|exact Q3|exact QG|exact Qu|apply Qo|exact Q5|apply Qn|apply QC|apply QJ|apply VK|apply Xp|apply Qs|apply Qw|apply Ho|apply Hr|apply Hu|apply Hv|apply Hw)|exact QR rfl|exact (rfl : Qj _ = true)|exact (rfl : (_ : Option _) = some _)|decide)
theorem OY (K : Frag) {n st : Nat} {ns : List Int} (hl : ns.length ≤ 63) (h3 : 3 ≤ n) (h12 : n ≤ 12) : ∃ chs ws, YX K [.list (iL ns), .int st, .int n] = .ok (.sh (.tup [.list (chD chs), .list (chD ws)])) ∧ Chs n chs ∧ (∀ c ∈ ws, Change n c) ∧ 1 ≤ ws.length ∧ ws.length ≤ 4 := by
 have c0 := Yh K ns st hl
 have c1 := Yh K ns (st + 1) hl
 obtain ⟨m, hm, e1⟩ := Vn K (ns.getD st 0)
 have e2 : YI [.int (m : Int)] = some (.sh (.range 0 m 1)) := rfl
 have e3 : Zt (.range 0 (m : Int) 1) = some (nL (List.range' 0 (m - 0))) := Cd (a := 0) (Nat.zero_le _) (by omega)
 rw [Nat.sub_zero] at e3
 obtain ⟨chs, v, q1, q2, q3⟩ := CL K (st := st) (x3 := .int (ns.getD st 0)) hl h3 h12 m 0 [] none (fun x hx => by cases hx) (by omega) (by simp; omega)
 have q3 : ZT (XG 5) _ (nL (List.range' 0 m)) [some (.sh (.list (iL ns))), some (.sh (.int st)), some (.sh (.int n)), some (.sh (.int (ns.getD st 0))), some (.ow true (.list [])), none, none, none] = .ok .next [some (.sh (.list (iL ns))), some (.sh (.int st)), some (.sh (.int n)), some (.sh (.int (ns.getD st 0))), some (.ow true (.list (chD chs))), v, none, none] := q3
 obtain ⟨r, hr1, hr2⟩ := US ((ns.getD st 0).fdiv 40) (n := 4) (by decide)
 have d1 : X4 (.int ((ns.getD st 0).fdiv 40)) (.int 4) = some (.sh (.int r)) := by rw [XW (by decide)]; rw [show ((ns.getD st 0).fdiv 40).fmod 4 = r from hr1]
 have d2 : Xg (.int 1) (.int (r : Int)) = some (.sh (.int ((1 + r : Nat) : Int))) := rfl
 have d3 : YI [.int ((1 + r : Nat) : Int)] = some (.sh (.range 0 ((1 + r : Nat) : Int) 1)) := rfl
 have d4 := Kw (1 + r) (by omega)
 obtain ⟨ws, w1, w2, w3⟩ := CD K (c := ns.getD (st + 1) 0) h3 h12 (show 1 + r ≤ 4 by omega)
 have d5 : Xg (.int (st : Int)) (.int 1) = some (.sh (.int ((st + 1 : Nat) : Int))) := rfl
 refine ⟨chs, ws, ?_, ⟨h3, h12, by rw [q1]; simp; omega, q2⟩, w2, by omega, by omega⟩
 unfold YX UG
 refine' Xj [some (.sh (.list (iL ns))), some (.sh (.int st)), some (.sh (.int n)), none, none, none, none, none] rfl rfl ?_ XD
 repeat' (first|(with_reducible first|assumption|exact Q3|exact XF|exact UZ|exact KC|exact Y2|exact ES|exact QG|exact Qu|apply Qo|exact Wq|apply Uj|apply Dj|exact G3|exact X5|apply X6|exact Xl|exact Q5|exact QX|apply Qn|apply QC|apply QJ|apply VK|apply Xi|apply Xs|apply Qs|apply QL|apply Qw|apply QM|apply Zc|apply XU|apply XB|apply Jx|apply Qt|apply Q6|apply Xf|apply Zn|apply XW|apply XY|apply Ho|apply Hs|apply Hr|apply Ht|apply Hu|apply Hv|apply Hw|apply Hx|apply Hy|apply Hz|apply HA|apply HP|apply HW|apply HZ|apply H1|apply HR|exact HS)|exact QR rfl|exact (rfl : Qj _ = true)|apply Ye rfl|exact (rfl : (_ : Option _) = some _)|decide)
theorem Db {ds : List D} (p : Nat) : W7 ds none (some (p : Int)) = ds.take p := by
 by_cases h : p ≤ ds.length
 ·exact EK h
 ·unfold W7
  simp only [Option.elim, List.drop_zero, clipAt_nat, Nat.sub_zero]
  rw [Nat.min_eq_right (by omega), List.take_of_length_le (Nat.le_refl _), List.take_of_length_le (by omega)]
end Mine
end

section
set_option Elab.async false
set_option maxRecDepth 100000
set_option maxHeartbeats 4000000
set_option linter.unusedSimpArgs false
set_option linter.unusedVariables false
namespace Mine
open PySem PySem.W
theorem WL (l : List (List Nat)) : chD l = Q8 (l.map fun c => c.map fun (p : Nat) => (p : Int)) := by
 unfold chD Q8; rw [List.map_map]; exact List.map_congr_left fun c _ => congrArg D.tup (F8 c)
theorem JR : ∀ l : List (List Int), PyData.eqvAll (l.map tp) (l.map tp) = true
 | [] => by simp [PyData.eqvAll]
 | a :: l => by
  show (PyData.eqv (tp a) (tp a) && PyData.eqvAll (l.map tp) (l.map tp)) = true
  rw [JR l, Er, decide_eq_true rfl]; rfl
theorem On (l : List (List Int)) : eqD (.list (Q8 l)) (.list (Q8 l)) = some true := KG (UK (JA l)) (UK (JA l)) (KP l) (KP l) (JR l)
theorem C1 (a b : List (List Int)) : eqD (.list [.list (Q8 a), .list (Q8 b)]) (.list [.list (Q8 a), .list (Q8 b)]) = some true := by
 have h : Yu [.list (Q8 a), .list (Q8 b)] = some [.list (a.map tp), .list (b.map tp)] := by
  rw [Yu, Yu, Yu, UK (JA a), UK (JA b)]
 have s : SeqAt.shaped (.list [.list (a.map tp), .list (b.map tp)]) = true := by
  have h1 := Uf a
  have h2 := Uf b
  unfold SeqAt.shaped
  simp [PyData.canLay0, PyData.canLayAll0, UU, PyData.depth, PyData.depthAll]; omega
 refine KG (UK h) (UK h) s s ?_
 show (PyData.eqvAll (a.map tp) (a.map tp) && (PyData.eqvAll (b.map tp) (b.map tp) && true)) = true
 rw [JR, JR]; rfl
theorem Gm (chs ws : List (List Nat)) : eqI (.list [.list (chD chs), .list (chD ws)]) (.list [.list (chD chs), .list (chD ws)]) = some (.sh (.bool true)) := by rw [WL, WL]; exact OX (C1 _ _)
theorem Cj (chs ws : List (List Nat)) : neI (.list [.list (chD chs), .list (chD ws)]) (.list [.list (chD chs), .list (chD ws)]) = some (.sh (.bool false)) := by rw [WL, WL]; exact Ks (C1 _ _)
theorem Cf (K : Frag) {n : Nat} {chs ws : List (List Nat)} (h : chs.length ≤ 30) : Zp K [mth n chs ws] = .ok (.ow true (.list (chD chs))) := by
 have e1 := ZC (ds := chD chs) (by rw [QP]; omega)
 unfold Zp JD
 refine' Xj [some (.sh (mth n chs ws))] rfl rfl ?_ XD
 unfold mth
 repeat' (first|(with_reducible first|assumption|exact Q3|exact QG|exact Qu|apply Qo|exact Jb|exact Q5|apply QJ|apply Qs|apply QL|apply Qt|apply Q6|apply X9|apply Ho|apply Ht|apply Hv|apply Hw|apply HW|exact HS)|exact (rfl : Qj _ = true)|(show List.all _ _ = true; rfl)|exact (rfl : (_ : Option _) = some _)|decide)
theorem Cg (K : Frag) {n : Nat} {chs ws : List (List Nat)} (h : ws.length ≤ 4) : Zu K [mth n chs ws] = .ok (.ow true (.list (chD ws))) := by
 have e1 := ZC (ds := chD ws) (by rw [QP]; omega)
 unfold Zu Ju
 refine' Xj [some (.sh (mth n chs ws))] rfl rfl ?_ XD
 unfold mth
 repeat' (first|(with_reducible first|assumption|exact Q3|exact QG|exact Qu|apply Qo|exact Jb|exact Q5|apply QJ|apply Qs|apply QL|apply Qt|apply Q6|apply X9|apply Ho|apply Ht|apply Hv|apply Hw|apply HW|exact HS)|exact (rfl : Qj _ = true)|(show List.all _ _ = true; rfl)|exact (rfl : (_ : Option _) = some _)|decide)
theorem DB (K : Frag) {n : Nat} {chs ws : List (List Nat)} (h : chs.length ≤ 30) : Yj K [mth n chs ws] = .ok (.sh (.int ((chs.length : Int) + 1))) := by
 have e1 := XE (ds := chD chs) (by rw [QP]; omega)
 rw [QP] at e1
 unfold Yj JS
 refine' Xj [some (.sh (mth n chs ws))] rfl rfl ?_ XD
 unfold mth
 repeat' (first|(with_reducible first|assumption|exact Q3|exact QG|exact Qu|apply Qo|exact Jb|exact Xl|exact Q5|apply QJ|apply Xs|apply Qs|apply QL|apply Qt|apply Q6|apply X9|apply Ho|apply Hs|apply Hr|apply Ht|apply Hv|apply Hw|apply HW|exact HS)|exact (rfl : Qj _ = true)|(show List.all _ _ = true; rfl)|exact (rfl : (_ : Option _) = some _)|decide)
theorem EH (K : Frag) (i : Int) : QK K [.int i, .glob (.type "bool")] = some (.sh (.bool false)) := by kernel_rfl
noncomputable def Y9 (chs ws : List (List Nat)) : D := .tup [.list [.list (chD chs), .list (chD ws)], .list [.list (chD chs), .list (chD ws)]]
theorem Kn (K : Frag) {n : Nat} {chs ws : List (List Nat)} (hm : Mth n chs ws) : BB (Yo K) [mth n chs ws, .int n, .list (chD chs), .list (chD ws)] = some (.bool true, Y9 chs ws) := by
 refine CU fun x => ?_
 have i1 := Cf K (n := n) (ws := ws) hm.c.len
 have i2 := Cg K (n := n) (chs := chs) hm.l
 have i3 := DB K (n := n) (ws := ws) hm.c.len
 have lA : (chD chs).length ≤ 1000000 := by rw [QP]; have := hm.c.len; omega
 have lB : (chD ws).length ≤ 1000000 := by rw [QP]; have := hm.l; omega
 have e1 := XE lA
 rw [QP] at e1
 have e2 : neI (.int (n : Int)) (.int (n : Int)) = some (.sh (.bool false)) := EL _
 have e3 : neI (.int ((chs.length : Int) + 1)) (.int ((chs.length : Int) + 1)) = some (.sh (.bool false)) := EL _
 have e4 := Cj chs ws
 have e5 := Gm chs ws
 have e6 := EH K n
 have e7 := Zs K (chD chs)
 have e8 := Zs K (chD ws)
 have e9 := ZC lA
 have e10 := ZC lB
 unfold Yo
 refine' Dl (ρ := [some (.sh (mth n chs ws)), some (.sh (.int n)), some (.sh (.list (chD chs))), some (.sh (.list (chD ws))), some (.sh (.glob (.ref x))), none, none])
  (ρ₁ := [some (.sh (mth n chs ws)), some (.sh (.int n)), some (.sh (.list (chD chs))), some (.sh (.list (chD ws))), some (.sh (.glob (.ref x))), none, some (.ow true (.list [.list (chD chs), .list (chD ws)]))])
  (ρ₂ := [some (.sh (mth n chs ws)), some (.sh (.int n)), some (.sh (.list (chD chs))), some (.sh (.list (chD ws))), some (.sh (.glob (.ref x))), none, some (.sh (.list [.list (chD chs), .list (chD ws)]))])
  (ρ₃ := [some (.sh (mth n chs ws)), some (.sh (.int n)), some (.sh (.list (chD chs))), some (.sh (.list (chD ws))), some (.sh (.glob (.ref x))), none, some (.sh (.list [.list (chD chs), .list (chD ws)]))])
  (t := .sh (Y9 chs ws)) rfl rfl ?_ ?_ ?_ rfl (beq_self_eq_true x) rfl
 ·have s1 : VH 5 (JK 210 "inner" 0 (Zp K) Qm) (JK 210 "calls" 0 (Zu K) Qm) (eOr (Q9 neI (Qd (Jq 210 "bells" 0)) (eOp 1)) (eOr (Xm (Qd (Xc (QK K) (Qa (Qd (Jq 210 "bells" 0)) (Qa (Qd (Qb (.glob (.type "bool")))) Qm))))) (eOr (Q9 neI (eOp 5) (Qd (XV (Qp (XM 2) (Qp (XM 3) Xd))))) Zm))) (eOr (Yb (Xm (Qd (Xc (QK K) (Qa (Qd (Qq QT (eOp 5) (Qd (Qb (.int 0))))) (Qa (Qd (Qb (.glob (.type "list")))) Qm)))))) (eOr (Yb (Xm (Qd (Xc (QK K) (Qa (Qd (Qq QT (eOp 5) (Qd (Qb (.int 1))))) (Qa (Qd (Qb (.glob (.type "list")))) Qm)))))) (eOr (Q9 neI (Qd (JK 210 "size" 0 (Yj K) Qm)) (Qd (Qq Xg (Qd (Xc YK (Qa (eOp 2) Qm))) (Qd (Qb (.int 1)))))) Zm))) [some (.sh (mth n chs ws)), some (.sh (.int n)), some (.sh (.list (chD chs))), some (.sh (.list (chD ws))), some (.sh (.glob (.ref x))), none, none] = .ok .next [some (.sh (mth n chs ws)), some (.sh (.int n)), some (.sh (.list (chD chs))), some (.sh (.list (chD ws))), some (.sh (.glob (.ref x))), none, none] := by
   refine Df ⟨true, true, chD chs, chD ws, [some (.sh (mth n chs ws)), some (.sh (.int n)), some (.sh (.list (chD chs))), some (.sh (.list (chD ws))), some (.sh (.glob (.ref x))), some (.sh (.list [.list (chD chs), .list (chD ws)])), none], [some (.sh (mth n chs ws)), some (.sh (.int n)), some (.sh (.list (chD chs))), some (.sh (.list (chD ws))), some (.sh (.glob (.ref x))), some (.sh (.list [.list (chD chs), .list (chD ws)])), none], rfl, ?_, ?_, lA, lB, ?_, ?_⟩
   ·unfold mth at *; repeat' (first|(with_reducible first|assumption|exact Q3|exact Z6|exact XF|exact YF|exact Y2|exact QG|exact Qu|apply Qo|exact X5|apply X6|exact Ud|exact Xl|exact Q5|exact QX|exact Q1|exact QD|exact QQ|apply Qn|apply QJ|apply Xi|apply Zq|apply Xs|apply Xz|apply QS|apply Xp|apply Qs|apply QL|apply QM|apply Qz|apply Q2|apply Xy|apply Zc|apply XU|apply Qt|apply Q6|apply Xf|apply X9|apply ZO|apply Ho|apply Hs|apply Hr|apply Ht|apply Hv|apply Hw|apply Hx|apply Hy|apply Hz|apply HA|apply HB|apply HI|apply HJ|apply HW|apply HZ|exact HC|apply HH|apply HR|exact HS|exact il0|exact il1|apply H5)|exact QR rfl|exact (rfl : Qj _ = true)|(show List.all _ _ = true; rfl)|exact Xk rfl|apply Ye rfl|exact (rfl : (_ : Option _) = some _)|decide)
   ·unfold mth at *; repeat' (first|(with_reducible first|assumption|exact Q3|exact Z6|exact XF|exact YF|exact Y2|exact QG|exact Qu|apply Qo|exact X5|apply X6|exact Ud|exact Xl|exact Q5|exact QX|exact Q1|exact QD|exact QQ|apply Qn|apply QJ|apply Xi|apply Zq|apply Xs|apply Xz|apply QS|apply Xp|apply Qs|apply QL|apply QM|apply Qz|apply Q2|apply Xy|apply Zc|apply XU|apply Qt|apply Q6|apply Xf|apply X9|apply ZO|apply Ho|apply Hs|apply Hr|apply Ht|apply Hv|apply Hw|apply Hx|apply Hy|apply Hz|apply HA|apply HB|apply HI|apply HJ|apply HW|apply HZ|exact HC|apply HH|apply HR|exact HS|exact il0|exact il1|apply H5)|exact QR rfl|exact (rfl : Qj _ = true)|(show List.all _ _ = true; rfl)|exact Xk rfl|apply Ye rfl|exact (rfl : (_ : Option _) = some _)|decide)
   ·rw [YF]; unfold mth at *; repeat' (first|(with_reducible first|assumption|exact Q3|exact Z6|exact XF|exact YF|exact Y2|exact QG|exact Qu|apply Qo|exact X5|apply X6|exact Ud|exact Xl|exact Q5|exact QX|exact Q1|exact QD|exact QQ|apply Qn|apply QJ|apply Xi|apply Zq|apply Xs|apply Xz|apply QS|apply Xp|apply Qs|apply QL|apply QM|apply Qz|apply Q2|apply Xy|apply Zc|apply XU|apply Qt|apply Q6|apply Xf|apply X9|apply ZO|apply Ho|apply Hs|apply Hr|apply Ht|apply Hv|apply Hw|apply Hx|apply Hy|apply Hz|apply HA|apply HB|apply HI|apply HJ|apply HW|apply HZ|exact HC|apply HH|apply HR|exact HS|exact il0|exact il1|apply H5)|exact QR rfl|exact (rfl : Qj _ = true)|(show List.all _ _ = true; rfl)|exact Xk rfl|apply Ye rfl|exact (rfl : (_ : Option _) = some _)|decide)
   ·rw [YF]; unfold mth at *; repeat' (first|(with_reducible first|assumption|exact Q3|exact Z6|exact XF|exact YF|exact Y2|exact QG|exact Qu|apply Qo|exact X5|apply X6|exact Ud|exact Xl|exact Q5|exact QX|exact Q1|exact QD|exact QQ|apply Qn|apply QJ|apply Xi|apply Zq|apply Xs|apply Xz|apply QS|apply Xp|apply Qs|apply QL|apply QM|apply Qz|apply Q2|apply Xy|apply Zc|apply XU|apply Qt|apply Q6|apply Xf|apply X9|apply ZO|apply Ho|apply Hs|apply Hr|apply Ht|apply Hv|apply Hw|apply Hx|apply Hy|apply Hz|apply HA|apply HB|apply HI|apply HJ|apply HW|apply HZ|exact HC|apply HH|apply HR|exact HS|exact il0|exact il1|apply H5)|exact QR rfl|exact (rfl : Qj _ = true)|(show List.all _ _ = true; rfl)|exact Xk rfl|apply Ye rfl|exact (rfl : (_ : Option _) = some _)|decide)
  unfold Wu
  unfold mth at *
  repeat' (first|(with_reducible first|assumption|exact Q3|exact Z6|exact XF|exact YF|exact Y2|exact QG|exact Qu|apply Qo|exact X5|apply X6|exact Ud|exact Xl|exact Q5|exact QX|exact Q1|exact QD|exact QQ|apply Qn|apply QJ|apply Xi|apply Zq|apply Xs|apply Xz|apply QS|apply Xp|apply Qs|apply QL|apply QM|apply Qz|apply Q2|apply Xy|apply Zc|apply XU|apply Qt|apply Q6|apply Xf|apply X9|apply ZO|apply Ho|apply Hs|apply Hr|apply Ht|apply Hv|apply Hw|apply Hx|apply Hy|apply Hz|apply HA|apply HB|apply HI|apply HJ|apply HW|apply HZ|exact HC|apply HH|apply HR|exact HS|exact il0|exact il1|apply H5)|exact QR rfl|exact (rfl : Qj _ = true)|(show List.all _ _ = true; rfl)|exact Xk rfl|apply Ye rfl|exact (rfl : (_ : Option _) = some _)|decide)
 ·unfold WB Y9
  unfold mth at *
  repeat' (first|(with_reducible first|assumption|exact Q3|exact Z6|exact XF|exact YF|exact Y2|exact QG|exact Qu|apply Qo|exact X5|apply X6|exact Ud|exact Xl|exact Q5|exact QX|exact Q1|exact QD|exact QQ|apply Qn|apply QJ|apply Xi|apply Zq|apply Xs|apply Xz|apply QS|apply Xp|apply Qs|apply QL|apply QM|apply Qz|apply Q2|apply Xy|apply Zc|apply XU|apply Qt|apply Q6|apply Xf|apply X9|apply ZO|apply Ho|apply Hs|apply Hr|apply Ht|apply Hv|apply Hw|apply Hx|apply Hy|apply Hz|apply HA|apply HB|apply HI|apply HJ|apply HW|apply HZ|exact HC|apply HH|apply HR|exact HS|exact il0|exact il1|apply H5)|exact QR rfl|exact (rfl : Qj _ = true)|(show List.all _ _ = true; rfl)|exact Xk rfl|apply Ye rfl|exact (rfl : (_ : Option _) = some _)|decide)
 ·unfold Wx
  unfold mth at *
  repeat' (first|(with_reducible first|assumption|exact Q3|exact Z6|exact XF|exact YF|exact Y2|exact QG|exact Qu|apply Qo|exact X5|apply X6|exact Ud|exact Xl|exact Q5|exact QX|exact Q1|exact QD|exact QQ|apply Qn|apply QJ|apply Xi|apply Zq|apply Xs|apply Xz|apply QS|apply Xp|apply Qs|apply QL|apply QM|apply Qz|apply Q2|apply Xy|apply Zc|apply XU|apply Qt|apply Q6|apply Xf|apply X9|apply ZO|apply Ho|apply Hs|apply Hr|apply Ht|apply Hv|apply Hw|apply Hx|apply Hy|apply Hz|apply HA|apply HB|apply HI|apply HJ|apply HW|apply HZ|exact HC|apply HH|apply HR|exact HS|exact il0|exact il1|apply H5)|exact QR rfl|exact (rfl : Qj _ = true)|(show List.all _ _ = true; rfl)|exact Xk rfl|apply Ye rfl|exact (rfl : (_ : Option _) = some _)|decide)
end Mine
end

section
set_option Elab.async false
set_option maxRecDepth 100000
set_option maxHeartbeats 4000000
set_option linter.unusedSimpArgs false
set_option linter.unusedVariables false
namespace Mine
open PySem PySem.W
theorem Di : ∀ c : List Nat, XX (nD c) = true
 | [] => rfl
 | p :: r => by show (Qj (.int p) && XX (nD r)) = true; rw [Di r]; rfl
theorem OZ : ∀ l : List (List Nat), XX (chD l) = true
 | [] => rfl
 | c :: r => by show (XX (nD c) && XX (chD r)) = true; rw [Di c, OZ r]; rfl
theorem Wm (K : Frag) {n st : Nat} {ns : List Int} (hl : ns.length ≤ 63) (h3 : 3 ≤ n) (h12 : n ≤ 12) : ∃ chs ws, Yq K [.list (iL ns), .int st, .int n] = .ok (.sh (.tup [mth n chs ws, .list (chD chs), .list (chD ws)])) ∧ Mth n chs ws ∧ 1 ≤ ws.length := by
 obtain ⟨chs, ws, f1, hc, hw, h1, h4⟩ := OY K (n := n) (st := st) (ns := ns) hl h3 h12
 refine ⟨chs, ws, ?_, ⟨hc, hw, h4⟩, h1⟩
 have lA : (chD chs).length ≤ 1000000 := by rw [QP]; have := hc.len; omega
 have lB : (chD ws).length ≤ 1000000 := by rw [QP]; omega
 have g1 := ZC lA
 have g2 := ZC lB
 have hI : JH (Xx K) [.int n, .list (chD chs), .list (chD ws)] = .ok [.int n, .list (chD chs), .list (chD ws)] := Bx K hc hw h1 h4
 have e4 := Cj chs ws
 have s1 : (Wd [3, 4] (QV (YX K) (Qa (eOp 0) (Qa (eOp 1) (Qa (eOp 2) Qm))))) [some (.sh (.list (iL ns))), some (.sh (.int st)), some (.sh (.int n)), none, none, none, none] = .ok .next [some (.sh (.list (iL ns))), some (.sh (.int st)), some (.sh (.int n)), some (.sh (.list (chD chs))), some (.sh (.list (chD ws))), none, none] := by
  refine Da (d := .tup [.list (chD chs), .list (chD ws)]) (ρ₁ := [some (.sh (.list (iL ns))), some (.sh (.int st)), some (.sh (.int n)), none, none, none, none]) ?_ (ZJ rfl rfl)
  repeat' (first|(with_reducible first|assumption|exact Q3|exact Z6|exact XF|exact YF|exact Y2|exact QG|exact Qu|apply Qo|exact X5|apply X6|exact Q5|exact QX|apply Qn|apply QC|apply QJ|apply Xi|apply Xz|apply Qs|apply QL|apply Qw|apply QM|apply Zc|apply XU|apply Qt|apply Q6|apply ZJ|apply Ho|apply Ht|apply Hu|apply Hv|apply Hw|apply Hx|apply Hy|apply Hz|apply HA|apply HI|apply HW|apply HR|exact HS|exact il0|exact il1)|exact QR rfl|exact (rfl : Qj _ = true)|(show List.all _ _ = true; rfl)|exact Xk rfl|exact (rfl : (_ : Option _) = some _)|decide)
 have s2 : (J3 5 6 (Xc ZH (Qa (eOp 3) Qm)) (Xc ZH (Qa (eOp 4) Qm)) (Wh 210 ["bells", "steps", "ways"] (Xx K) (Qa (eOp 2) (Qa (Qd (Qq QT (eOp 5) (Qd (Qb (.int 0))))) (Qa (Qd (Qq QT (eOp 5) (Qd (Qb (.int 1))))) Qm)))) (Q9 neI (eOp 5) (Qd (XV (Qp (XM 3) (Qp (XM 4) Xd)))))) [some (.sh (.list (iL ns))), some (.sh (.int st)), some (.sh (.int n)), some (.sh (.list (chD chs))), some (.sh (.list (chD ws))), none, none] = .ok .next [some (.sh (.list (iL ns))), some (.sh (.int st)), some (.sh (.int n)), some (.sh (.list (chD chs))), some (.sh (.list (chD ws))), none, some (.sh (mth n chs ws))] := by
  refine BI (o := mth n chs ws) ⟨true, true, chD chs, chD ws, 210, ["bells", "steps", "ways"], [.int n, .list (chD chs), .list (chD ws)], [some (.sh (.list (iL ns))), some (.sh (.int st)), some (.sh (.int n)), some (.sh (.list (chD chs))), some (.sh (.list (chD ws))), some (.sh (.list [.list (chD chs), .list (chD ws)])), some (.sh (mth n chs ws))], rfl, ?_, ?_, lA, lB, rfl, ?_, ?_, ?_⟩
  ·repeat' (first|(with_reducible first|assumption|exact Q3|exact Z6|exact XF|exact YF|exact Y2|exact QG|exact Qu|apply Qo|exact X5|apply X6|exact Q5|exact QX|apply Qn|apply QC|apply QJ|apply Xi|apply Xz|apply Qs|apply QL|apply Qw|apply QM|apply Zc|apply XU|apply Qt|apply Q6|apply ZJ|apply Ho|apply Ht|apply Hu|apply Hv|apply Hw|apply Hx|apply Hy|apply Hz|apply HA|apply HI|apply HW|apply HR|exact HS|exact il0|exact il1)|exact QR rfl|exact (rfl : Qj _ = true)|(show List.all _ _ = true; rfl)|exact Xk rfl|exact (rfl : (_ : Option _) = some _)|decide)
  ·repeat' (first|(with_reducible first|assumption|exact Q3|exact Z6|exact XF|exact YF|exact Y2|exact QG|exact Qu|apply Qo|exact X5|apply X6|exact Q5|exact QX|apply Qn|apply QC|apply QJ|apply Xi|apply Xz|apply Qs|apply QL|apply Qw|apply QM|apply Zc|apply XU|apply Qt|apply Q6|apply ZJ|apply Ho|apply Ht|apply Hu|apply Hv|apply Hw|apply Hx|apply Hy|apply Hz|apply HA|apply HI|apply HW|apply HR|exact HS|exact il0|exact il1)|exact QR rfl|exact (rfl : Qj _ = true)|(show List.all _ _ = true; rfl)|exact Xk rfl|exact (rfl : (_ : Option _) = some _)|decide)
  ·show (true && (XX (chD chs) && (XX (chD ws) && true))) = true
   rw [OZ, OZ]; rfl
  ·rw [YF]
   refine Fv (bs := [.var 2, .val (.list (chD chs)), .val (.list (chD ws))]) (ds := [.int n, .list (chD chs), .list (chD ws)]) ?_ ?_ rfl hI
   ·repeat' (first|(with_reducible first|assumption|exact Q3|exact Z6|exact XF|exact YF|exact Y2|exact QG|exact Qu|apply Qo|exact X5|apply X6|exact Q5|exact QX|apply Qn|apply QC|apply QJ|apply Xi|apply Xz|apply Qs|apply QL|apply Qw|apply QM|apply Zc|apply XU|apply Qt|apply Q6|apply ZJ|apply Ho|apply Ht|apply Hu|apply Hv|apply Hw|apply Hx|apply Hy|apply Hz|apply HA|apply HI|apply HW|apply HR|exact HS|exact il0|exact il1)|exact QR rfl|exact (rfl : Qj _ = true)|(show List.all _ _ = true; rfl)|exact Xk rfl|exact (rfl : (_ : Option _) = some _)|decide)
   ·repeat' (first|(with_reducible first|assumption|exact Q3|exact Z6|exact XF|exact YF|exact Y2|exact QG|exact Qu|apply Qo|exact X5|apply X6|exact Q5|exact QX|apply Qn|apply QC|apply QJ|apply Xi|apply Xz|apply Qs|apply QL|apply Qw|apply QM|apply Zc|apply XU|apply Qt|apply Q6|apply ZJ|apply Ho|apply Ht|apply Hu|apply Hv|apply Hw|apply Hx|apply Hy|apply Hz|apply HA|apply HI|apply HW|apply HR|exact HS|exact il0|exact il1)|exact QR rfl|exact (rfl : Qj _ = true)|(show List.all _ _ = true; rfl)|exact Xk rfl|exact (rfl : (_ : Option _) = some _)|decide)
  ·rw [Y2, YF]
   repeat' (first|(with_reducible first|assumption|exact Q3|exact Z6|exact XF|exact YF|exact Y2|exact QG|exact Qu|apply Qo|exact X5|apply X6|exact Q5|exact QX|apply Qn|apply QC|apply QJ|apply Xi|apply Xz|apply Qs|apply QL|apply Qw|apply QM|apply Zc|apply XU|apply Qt|apply Q6|apply ZJ|apply Ho|apply Ht|apply Hu|apply Hv|apply Hw|apply Hx|apply Hy|apply Hz|apply HA|apply HI|apply HW|apply HR|exact HS|exact il0|exact il1)|exact QR rfl|exact (rfl : Qj _ = true)|(show List.all _ _ = true; rfl)|exact Xk rfl|exact (rfl : (_ : Option _) = some _)|decide)
 unfold Yq WH
 refine' Xj [some (.sh (.list (iL ns))), some (.sh (.int st)), some (.sh (.int n)), none, none, none, none] rfl rfl ?_ XD
 repeat' (first|(with_reducible first|assumption|exact Q3|exact Z6|exact XF|exact YF|exact Y2|exact QG|exact Qu|apply Qo|exact X5|apply X6|exact Q5|exact QX|apply Qn|apply QC|apply QJ|apply Xi|apply Xz|apply Qs|apply QL|apply Qw|apply QM|apply Zc|apply XU|apply Qt|apply Q6|apply ZJ|apply Ho|apply Ht|apply Hu|apply Hv|apply Hw|apply Hx|apply Hy|apply Hz|apply HA|apply HI|apply HW|apply HR|exact HS|exact il0|exact il1)|exact QR rfl|exact (rfl : Qj _ = true)|(show List.all _ _ = true; rfl)|exact Xk rfl|exact (rfl : (_ : Option _) = some _)|decide)
theorem F1 (l : List Int) : neI (.tup (iL l)) (.tup (iL l)) = some (.sh (.bool false)) := Ks (b := true) (KG (Ba l) (Ba l) (Kx l) (Kx l) (by rw [Er, decide_eq_true rfl]))
theorem B9 (K : Frag) (ds : List D) : QK K [.tup ds, .glob (.type "tuple")] = some (.sh (.bool true)) := by kernel_rfl
theorem Fz (K : Frag) (l : List (List Int)) (hl : l.length ≤ 1000) : YG (XG 1) Bc (Xc (QK K) (Qa (eOp 1) (Qa (Qd (Qb (.glob (.type "tuple")))) Qm))) [none, none] (Q8 l) [] = some ((Q8 l).map fun _ => .bool true) := by
 refine KD (b := XG 1) (g := fun _ => .bool true) (Q8 l) (fun d hd => ?_) (by rw [J6]; omega)
 obtain ⟨r, _, rfl⟩ := List.mem_map.mp hd
 have e1 := B9 K (iL r)
 refine ⟨[none, some (.sh (.tup (iL r)))], .sh (.bool true), [none, some (.sh (.tup (iL r)))], rfl, ?_, rfl⟩
 repeat' (first|(with_reducible first|assumption|exact QG|exact Qu|apply Qo|exact QQ|apply QC|apply QL|apply Ht|apply Hv)|exact (rfl : Qj _ = true)|(show List.all _ _ = true; rfl)|exact (rfl : (_ : Option _) = some _)|decide)
theorem Fr (K : Frag) {n : Nat} {a : List Int} {chs ws : List (List Nat)} {x : Addr} (hm : Mth n chs ws) (ra : Row n a) {v6 : Option T} : ∀ (c j : Nat) (v7 v8 : Option T), j + c = ws.length → ∃ v7' v8', ZT (XG 7) (Qr (Qy 8 (JK 210 "after" 0 (Xu K) (Qa (eOp 3) (Qa (eOp 7) Qm)))) (Qr (sIf (eOr (Yb (Xm (Qd (Xc (QK K) (Qa (eOp 8) (Qa (Qd (Qb (.glob (.type "tuple")))) Qm)))))) (eOr (Q9 neI (eOp 8) (Qd (QV (Yp K) (Qa (Qd (Qq QT (eOp 5) (Qd (Wv Us (Qd (Qb (.int 1))))))) (Qa (Qd (Qq QT (eOp 2) (eOp 7))) Qm))))) Zm)) (Qr (Za (Qb (.bool false))) QF) QF) QF)) (nL (List.range' j c)) [some (.sh (mth n chs ws)), some (.sh (.list (chD chs))), some (.sh (.list (chD ws))), some (.sh (.tup (iL a))), some (.sh (.glob (.ref x))), some (.sh (.list (Q8 (XH a chs)))), v6, v7, v8, none] = .ok .next [some (.sh (mth n chs ws)), some (.sh (.list (chD chs))), some (.sh (.list (chD ws))), some (.sh (.tup (iL a))), some (.sh (.glob (.ref x))), some (.sh (.list (Q8 (XH a chs)))), v6, v7', v8', none] := by
 intro c
 induction c with
 | zero => intro j v7 v8 _; exact ⟨v7, v8, rfl⟩
 | succ c ih =>
  intro j v7 v8 hj
  rw [C4]
  have hjl : j < ws.length := by omega
  obtain ⟨w, hw⟩ : ∃ w, ws[j]? = some w := ⟨_, List.getElem?_eq_getElem hjl⟩
  have e1 := Cp K hm ra hw
  obtain ⟨pre, p1, p2⟩ := BO chs a
  have e2 := W6 (l := pre) (a := Vm a chs) (by have := hm.c.len; omega)
  rw [← p1] at e2
  have e3 := En hw hm.l
  have e4 := Wp K (a := Vm a chs) (BE chs hm.c.all ra).len ra.h12 (hm.w w (List.mem_of_getElem? hw)).ok
  have e5 : Us (.int 1) = some (.sh (.int (-1))) := rfl
  unfold aft at e1
  have e6 := B9 K (iL (rung (Vm a chs) w))
  have e7 := F1 (rung (Vm a chs) w)
  obtain ⟨v7', v8', q⟩ := ih (j + 1) (some (.sh (.int j))) (some (.sh (.tup (iL (rung (Vm a chs) w))))) (by omega)
  refine ⟨v7', v8', ?_⟩
  clear p1 ih
  unfold mth at *
  repeat' (first|(with_reducible first|assumption|exact Q3|exact ES|exact FV|exact QG|exact Qu|apply Qo|exact Xl|exact Q5|exact Q1|exact QD|exact QQ|apply Qn|apply QC|apply QJ|apply Zq|apply Xz|apply Xp|apply Qs|apply QL|apply Qw|apply Qz|apply Q2|apply Xy|apply Ut|apply Qt|apply Q7|apply Xf|apply ZO|apply Ho|apply Hq|apply Hr|apply Ht|apply Hu|apply Hv|apply Hw|apply HB|apply HI|apply HZ|exact HC|apply HH|apply HR|apply HV|apply X8|apply Z0|apply H3|apply H5)|exact QR rfl|exact (rfl : Qj _ = true)|(show List.all _ _ = true; rfl)|exact (rfl : (_ : Option _) = some _)|decide)
theorem OU (K : Frag) {n : Nat} {a : List Int} {chs ws : List (List Nat)} (hm : Mth n chs ws) (ra : Row n a) : BB (ZG K) [mth n chs ws, .list (chD chs), .list (chD ws), .tup (iL a)] = some (.bool true, .tup [.list (Q8 (XH a chs)), .list (Q8 (XH a chs))]) := by
 refine CU fun x => ?_
 have l1 := O9 K (a := a) ra.len hm.c
 have l2 := KA K (ws := ws) ra hm.c
 have ll : (XH a chs).length ≤ 1000 := by rw [Dt]; have := hm.c.len; omega
 have lR : (Q8 (XH a chs)).length ≤ 1000000 := by rw [J6]; omega
 have e1 := Zs K (Q8 (XH a chs))
 have e2 : neI (.list (Q8 (XH a chs))) (.list (Q8 (XH a chs))) = some (.sh (.bool false)) := Ks (On _)
 have e3 : eqI (.list (Q8 (XH a chs))) (.list (Q8 (XH a chs))) = some (.sh (.bool true)) := OX (On _)
 have e4 := Fz K (XH a chs) ll
 have e5 : Zt (.list (Q8 (XH a chs))) = some (Q8 (XH a chs)) := rfl
 have e6 : DD [.list ((Q8 (XH a chs)).map fun _ => .bool true)] = some (.sh (.bool true)) := by
  rw [C3 (WT _ _), List.all_map]
  exact congrArg (fun b => some (T.sh (.bool b))) (List.all_eq_true.mpr fun _ _ => rfl)
 have e7 := ZC lR
 have e8 := XE (ds := chD ws) (by rw [QP]; have := hm.l; omega)
 rw [QP] at e8
 have e9 : YI [.int (ws.length : Int)] = some (.sh (.range 0 ws.length 1)) := rfl
 have e10 := Ep (m := ws.length) (by have := hm.l; omega)
 obtain ⟨v7, v8, q⟩ := Fr K (x := x) hm ra (v6 := some (.sh (.list (Q8 (XH a chs))))) ws.length 0 none none (by omega)
 unfold ZG
 refine' Dl (ρ := [some (.sh (mth n chs ws)), some (.sh (.list (chD chs))), some (.sh (.list (chD ws))), some (.sh (.tup (iL a))), some (.sh (.glob (.ref x))), none, none, none, none, none]) (ρ₁ := [some (.sh (mth n chs ws)), some (.sh (.list (chD chs))), some (.sh (.list (chD ws))), some (.sh (.tup (iL a))), some (.sh (.glob (.ref x))), some (.sh (.list (Q8 (XH a chs)))), some (.sh (.list (Q8 (XH a chs)))), none, none, none]) (ρ₂ := [some (.sh (mth n chs ws)), some (.sh (.list (chD chs))), some (.sh (.list (chD ws))), some (.sh (.tup (iL a))), some (.sh (.glob (.ref x))), some (.sh (.list (Q8 (XH a chs)))), some (.sh (.list (Q8 (XH a chs)))), none, none, none])
  (ρ₃ := [some (.sh (mth n chs ws)), some (.sh (.list (chD chs))), some (.sh (.list (chD ws))), some (.sh (.tup (iL a))), some (.sh (.glob (.ref x))), some (.sh (.list (Q8 (XH a chs)))), some (.sh (.list (Q8 (XH a chs)))), v7, v8, some (.ow true (.list []))]) (t := .sh (.tup [.list (Q8 (XH a chs)), .list (Q8 (XH a chs))])) rfl rfl ?_ ?_ ?_ rfl (beq_self_eq_true x) rfl
 ·unfold YY
  unfold mth at *
  repeat' (first|(with_reducible first|assumption|exact Q3|exact Z6|exact YF|exact Y2|exact DP|exact QG|exact Qu|apply Qo|exact Wq|apply Uj|apply Yg|exact X5|apply X6|exact Q5|exact QX|exact Q1|exact QD|exact QQ|apply Qn|apply QC|apply QJ|apply Xs|apply Xz|apply Xp|apply Qs|apply QL|apply Qw|apply QM|apply Qz|apply Q2|apply Xy|apply Zc|apply XB|apply Jx|apply Qt|apply Q7|apply Q6|apply Xb|apply Xf|apply Zn|apply O2|apply Oz|apply ZO|apply Ho|apply Hs|apply Hr|apply Ht|apply Hu|apply Hv|apply Hw|apply Hx|apply Hy|apply Hz|apply HB|apply HI|apply HP|apply HW|apply HX|apply HZ|apply H1|exact HC|apply HH|apply HR|exact HS|apply HV|apply H5)|exact QR rfl|exact (rfl : Qj _ = true)|(show List.all _ _ = true; rfl)|exact Xk rfl|apply Ye rfl|exact (rfl : (_ : Option _) = some _)|decide)
 ·unfold Y1
  unfold mth at *
  repeat' (first|(with_reducible first|assumption|exact Q3|exact Z6|exact YF|exact Y2|exact DP|exact QG|exact Qu|apply Qo|exact Wq|apply Uj|apply Yg|exact X5|apply X6|exact Q5|exact QX|exact Q1|exact QD|exact QQ|apply Qn|apply QC|apply QJ|apply Xs|apply Xz|apply Xp|apply Qs|apply QL|apply Qw|apply QM|apply Qz|apply Q2|apply Xy|apply Zc|apply XB|apply Jx|apply Qt|apply Q7|apply Q6|apply Xb|apply Xf|apply Zn|apply O2|apply Oz|apply ZO|apply Ho|apply Hs|apply Hr|apply Ht|apply Hu|apply Hv|apply Hw|apply Hx|apply Hy|apply Hz|apply HB|apply HI|apply HP|apply HW|apply HX|apply HZ|apply H1|exact HC|apply HH|apply HR|exact HS|apply HV|apply H5)|exact QR rfl|exact (rfl : Qj _ = true)|(show List.all _ _ = true; rfl)|exact Xk rfl|apply Ye rfl|exact (rfl : (_ : Option _) = some _)|decide)
 ·unfold YZ
  unfold mth at *
  repeat' (first|(with_reducible first|assumption|exact Q3|exact Z6|exact YF|exact Y2|exact DP|exact QG|exact Qu|apply Qo|exact Wq|apply Uj|apply Yg|exact X5|apply X6|exact Q5|exact QX|exact Q1|exact QD|exact QQ|apply Qn|apply QC|apply QJ|apply Xs|apply Xz|apply Xp|apply Qs|apply QL|apply Qw|apply QM|apply Qz|apply Q2|apply Xy|apply Zc|apply XB|apply Jx|apply Qt|apply Q7|apply Q6|apply Xb|apply Xf|apply Zn|apply O2|apply Oz|apply ZO|apply Ho|apply Hs|apply Hr|apply Ht|apply Hu|apply Hv|apply Hw|apply Hx|apply Hy|apply Hz|apply HB|apply HI|apply HP|apply HW|apply HX|apply HZ|apply H1|exact HC|apply HH|apply HR|exact HS|apply HV|apply H5)|exact QR rfl|exact (rfl : Qj _ = true)|(show List.all _ _ = true; rfl)|exact Xk rfl|apply Ye rfl|exact (rfl : (_ : Option _) = some _)|decide)
end Mine
end

section
set_option Elab.async false
set_option maxRecDepth 100000
set_option maxHeartbeats 4000000
set_option linter.unusedSimpArgs false
set_option linter.unusedVariables false
namespace Mine
open PySem PySem.W
structure KF03 (K : Frag) : Prop where
 bells : ExcI K 37 0
 row : ExcI K 49 1
 change : ExcI K 61 2
 method : ExcI K 73 3
 call : ExcI K 85 4
theorem Jl {n : Nat} {is : List Nat} {i₀ : Nat} {f : AEnv → Res Fl} {ts : List (Str × (AEnv → Res T))} {x C : Addr} {ds : List D} {ρ ρ₁ : AEnv} (hl : ds.length + 1 = is.length) (hi : Wg n is (.glob (.ref x) :: ds) = ρ) (h : f ρ = .exc C ρ₁) : VB n is i₀ f ts x ds = .exc C := by
 subst hi
 refine (if_pos hl).trans ?_
 conv => lhs; whnf; rw [h]
theorem FM (K : Frag) {d b c : D} (h : Zi K [d] = .exc 37) : JH (Xx K) [d, b, c] = .exc 37 := Uc fun x => by
 unfold Xx XQ XR
 refine' Jl (ρ := [some (.sh (.glob (.ref x))), some (.sh d), some (.sh b), some (.sh c), none]) (ρ₁ := [some (.sh (.glob (.ref x))), some (.sh d), some (.sh b), some (.sh c), none]) rfl rfl ?_
 repeat' (first|(with_reducible first|assumption|exact Qu|apply Qo|exact UH|apply Qn|apply Qs|apply Qw|apply Qt|apply Xb|exact Hp|apply Hu|exact HY|exact HT)|exact (rfl : Qj _ = true)|(show List.all _ _ = true; rfl)|exact (rfl : (_ : Option _) = some _)|decide)
theorem JT (K : Frag) {n : Nat} (h3 : 3 ≤ n) (h12 : n ≤ 12) {b c : D} (hb : QK K [b, .glob (.type "list")] = some (.sh (.bool false))) : JH (Xx K) [.int n, b, c] = .exc 73 := Uc fun x => by
 have e1 := Zf K n (by omega) (by omega)
 unfold Xx XQ XR
 refine' Jl (ρ := [some (.sh (.glob (.ref x))), some (.sh (.int n)), some (.sh b), some (.sh c), none]) (ρ₁ := [some (.sh (.glob (.ref x))), some (.sh (.int n)), some (.sh b), some (.sh c), none]) rfl rfl ?_
 repeat' (first|(with_reducible first|assumption|exact Q3|exact QG|exact Qu|apply Qo|exact X5|apply X6|exact Q0|exact QX|exact QQ|apply Qn|apply QC|apply Qs|apply QL|apply Qw|apply QM|apply Qz|apply Q2|apply Xy|apply Qt|apply Q7|apply Xb|apply XK|apply Ho|apply Ht|apply Hu|apply Hv|apply Hx|apply Hy|apply HB|apply HX|exact HD|exact HG|apply HR|exact HT|apply HU)|exact QR rfl|exact (rfl : Qj _ = true)|(show List.all _ _ = true; rfl)|exact (rfl : (_ : Option _) = some _)|decide)
theorem WO (K : Frag) {n : Nat} (h3 : 3 ≤ n) (h12 : n ≤ 12) {ds : List D} {c : D} (h : 30 < ds.length) (h' : ds.length ≤ 1000) : JH (Xx K) [.int n, .list ds, c] = .exc 73 := Uc fun x => by
 have e1 := Zf K n (by omega) (by omega)
 have e2 := Zs K ds
 have e3 := XE (ds := ds) (by omega)
 have e4 := Gc (a := (ds.length : Int)) (b := 30) (by omega)
 unfold Xx XQ XR
 refine' Jl (ρ := [some (.sh (.glob (.ref x))), some (.sh (.int n)), some (.sh (.list ds)), some (.sh c), none]) (ρ₁ := [some (.sh (.glob (.ref x))), some (.sh (.int n)), some (.sh (.list ds)), some (.sh c), none]) rfl rfl ?_
 repeat' (first|(with_reducible first|assumption|exact Q3|exact QG|exact Qu|apply Qo|exact X5|apply X6|exact Xl|exact Q0|exact QX|exact QQ|apply Qn|apply QC|apply QS|apply Qs|apply QL|apply Qw|apply QM|apply Qz|apply Q2|apply Xy|apply Qt|apply Q7|apply Xb|apply XK|apply Ho|apply Ht|apply Hu|apply Hv|apply Hx|apply Hy|apply HB|apply HI|apply HJ|apply HX|exact HC|exact HG|apply HH|apply HR|exact HT|apply HU)|exact QR rfl|exact (rfl : Qj _ = true)|(show List.all _ _ = true; rfl)|exact (rfl : (_ : Option _) = some _)|decide)
theorem We (K : Frag) {n : Nat} (h3 : 3 ≤ n) (h12 : n ≤ 12) {ds : List D} {c : D} (h : ds.length ≤ 30) (hc : QK K [c, .glob (.type "list")] = some (.sh (.bool false))) : JH (Xx K) [.int n, .list ds, c] = .exc 73 := Uc fun x => by
 have e1 := Zf K n (by omega) (by omega)
 have e2 := Zs K ds
 have e3 := XE (ds := ds) (by omega)
 have e4 := B3 (a := (ds.length : Int)) (b := 30) (by omega)
 unfold Xx XQ XR
 refine' Jl (ρ := [some (.sh (.glob (.ref x))), some (.sh (.int n)), some (.sh (.list ds)), some (.sh c), none]) (ρ₁ := [some (.sh (.glob (.ref x))), some (.sh (.int n)), some (.sh (.list ds)), some (.sh c), none]) rfl rfl ?_
 repeat' (first|(with_reducible first|assumption|exact Q3|exact QG|exact Qu|apply Qo|exact X5|apply X6|exact Xl|exact Q0|exact QX|exact Q1|exact QD|exact QQ|apply Qn|apply QC|apply QS|apply Qs|apply QL|apply Qw|apply QM|apply Qz|apply Q2|apply Xy|apply Qt|apply Q7|apply Xb|apply XK|apply Ho|apply Ht|apply Hu|apply Hv|apply Hx|apply Hy|apply HB|apply HI|apply HJ|apply HX|exact HC|exact HD|exact HG|apply HH|apply HR|exact HT|apply HU|apply HV)|exact QR rfl|exact (rfl : Qj _ = true)|(show List.all _ _ = true; rfl)|exact (rfl : (_ : Option _) = some _)|decide)
theorem KQ (K : Frag) {n : Nat} (h3 : 3 ≤ n) (h12 : n ≤ 12) {ds es : List D} (h : ds.length ≤ 30) (hl : es.length ≤ 1000) (hc : ¬ (1 ≤ es.length ∧ es.length ≤ 4)) : JH (Xx K) [.int n, .list ds, .list es] = .exc 73 := Uc fun x => by
 have e1 := Zf K n (by omega) (by omega)
 have e2 := Zs K ds
 have e3 := XE (ds := ds) (by omega)
 have e4 := B3 (a := (ds.length : Int)) (b := 30) (by omega)
 have e5 := Zs K es
 have e6 := XE (ds := es) (by omega)
 unfold Xx XQ XR
 refine' Jl (ρ := [some (.sh (.glob (.ref x))), some (.sh (.int n)), some (.sh (.list ds)), some (.sh (.list es)), none]) (ρ₁ := [some (.sh (.glob (.ref x))), some (.sh (.int n)), some (.sh (.list ds)), some (.sh (.list es)), none]) rfl rfl ?_
 by_cases h1 : 1 ≤ es.length
 ·have e7 := Jz (a := 1) (b := (es.length : Int)) (by omega)
  have e8 := WY (a := (es.length : Int)) (b := 4) (by omega)
  repeat' (first|(with_reducible first|assumption|exact Q3|exact QG|exact Qu|apply Qo|exact X5|apply X6|exact Xl|exact Q0|exact QX|exact Q1|exact QD|exact QQ|apply Qn|apply QC|apply QS|apply Qs|apply QL|apply Qw|apply QM|apply Qz|apply Q2|apply Xy|apply XC|apply Qt|apply Q7|apply Xb|apply XK|apply Ho|apply Ht|apply Hu|apply Hv|apply Hx|apply Hy|apply HB|apply HI|apply HJ|apply HK|apply HN|apply HO|apply HX|exact HC|exact HD|exact HG|apply HH|apply HL|exact HM|apply HR|exact HT|apply HU|apply HV)|exact QR rfl|exact (rfl : Qj _ = true)|(show List.all _ _ = true; rfl)|exact (rfl : (_ : Option _) = some _)|decide)
 ·have e7 := WY (a := 1) (b := (es.length : Int)) (by omega)
  repeat' (first|(with_reducible first|assumption|exact Q3|exact QG|exact Qu|apply Qo|exact X5|apply X6|exact Xl|exact Q0|exact QX|exact Q1|exact QD|exact QQ|apply Qn|apply QC|apply QS|apply Qs|apply QL|apply Qw|apply QM|apply Qz|apply Q2|apply Xy|apply XC|apply Qt|apply Q7|apply Xb|apply XK|apply Ho|apply Ht|apply Hu|apply Hv|apply Hx|apply Hy|apply HB|apply HI|apply HJ|apply HK|apply HN|apply HO|apply HX|exact HC|exact HD|exact HG|apply HH|apply HL|exact HM|apply HR|exact HT|apply HU|apply HV)|exact QR rfl|exact (rfl : Qj _ = true)|(show List.all _ _ = true; rfl)|exact (rfl : (_ : Option _) = some _)|decide)
theorem Ca (K : Frag) {n : Nat} (h12 : n ≤ 12) {a b c : D} {r : List D} {chs : List (List Nat)} (h : ∀ x ∈ chs, Change n x) : ∀ v₀, ∃ v, ZT (XG 4) (Qr (Zb (Qd (QV (QW K) (Qa (eOp 1) (Qa (eOp 4) Qm))))) QF) (chD chs ++ r) [some (.sh a), some (.sh (.int n)), some (.sh b), some (.sh c), v₀] = ZT (XG 4) (Qr (Zb (Qd (QV (QW K) (Qa (eOp 1) (Qa (eOp 4) Qm))))) QF) r [some (.sh a), some (.sh (.int n)), some (.sh b), some (.sh c), v] := by
 induction chs with
 | nil => intro v₀; exact ⟨v₀, rfl⟩
 | cons x xs ih =>
  intro v₀
  have e1 := Ua K (h x (.head _)) h12
  obtain ⟨v, h1⟩ := ih (fun y hy => h y (.tail _ hy)) (some (.sh (.tup (nD x))))
  refine ⟨v, ?_⟩
  show ZT _ _ (D.tup (nD x) :: (chD xs ++ r)) _ = _
  repeat' (first|(with_reducible first|assumption|exact Q3|exact KC|exact Qu|apply Qo|exact QD|apply Qn|apply QC|apply Qs|apply Qw|apply Qt|apply Xb|apply Ho|apply Hu|apply Hv|apply HX|apply HR|apply X8|apply Z0|apply H3)|exact QR rfl|exact (rfl : Qj _ = true)|(show List.all _ _ = true; rfl)|exact (rfl : (_ : Option _) = some _)|decide)
theorem BA (K : Frag) {n : Nat} (h3 : 3 ≤ n) (h12 : n ≤ 12) {ds es r : List D} {d : D} {good : List (List Nat)} (h : ds.length ≤ 30) (h1 : 1 ≤ es.length) (h4 : es.length ≤ 4) (hs : ds ++ es = chD good ++ d :: r) (hg : ∀ c ∈ good, Change n c) (hd : QW K [.int n, d] = .exc 61) : JH (Xx K) [.int n, .list ds, .list es] = .exc 61 := Uc fun x => by
 have e1 := Zf K n (by omega) (by omega)
 have e2 := Zs K ds
 have e3 := XE (ds := ds) (by omega)
 have e4 := B3 (a := (ds.length : Int)) (b := 30) (by omega)
 have e5 := Zs K es
 have e6 := XE (ds := es) (by omega)
 have e7 := Jz (a := 1) (b := (es.length : Int)) (by omega)
 have e8 := Jz (a := (es.length : Int)) (b := 4) (by omega)
 have e9 : Xg (.list ds) (.list es) = some (.ow true (.list (ds ++ es))) := Up (by omega)
 have e10 : Zt (.list (ds ++ es)) = some (ds ++ es) := rfl
 obtain ⟨v, q⟩ := Ca K (a := .glob (.ref x)) (b := .list ds) (c := .list es) (r := d :: r) h12 hg none
 rw [← hs] at q
 have q2 : ZT (XG 4) (Qr (Zb (Qd (QV (QW K) (Qa (eOp 1) (Qa (eOp 4) Qm))))) QF) (ds ++ es) [some (.sh (.glob (.ref x))), some (.sh (.int n)), some (.sh (.list ds)), some (.sh (.list es)), none] = .exc 61 [some (.sh (.glob (.ref x))), some (.sh (.int n)), some (.sh (.list ds)), some (.sh (.list es)), some (.sh d)] := by
  rw [q]
  clear q e9 e10
  repeat' (first|(with_reducible first|assumption|exact Q3|exact Z6|exact KC|exact QG|exact Qu|apply Qo|exact UH|exact Xl|exact Q1|exact QD|exact QQ|apply Qn|apply QC|apply Zq|apply QS|apply Xp|apply Qs|apply QL|apply Qw|apply Qz|apply Q2|apply Xy|apply XC|apply XB|apply Qt|apply Q7|apply Xb|apply Zn|apply Ho|exact Hp|apply Hr|apply Ht|apply Hu|apply Hv|apply HB|apply HI|apply HJ|apply HK|apply HN|apply HO|apply HP|apply HX|exact HY|apply H1|exact HC|apply HH|apply HL|apply HR|exact HT|apply HV|apply X8|apply Z0|exact H4)|exact QR rfl|exact (rfl : Qj _ = true)|(show List.all _ _ = true; rfl)|exact (rfl : (_ : Option _) = some _)|decide)
 clear q
 generalize ds ++ es = A at *
 unfold Xx XQ XR
 refine' Jl (ρ := [some (.sh (.glob (.ref x))), some (.sh (.int n)), some (.sh (.list ds)), some (.sh (.list es)), none]) (ρ₁ := [some (.sh (.glob (.ref x))), some (.sh (.int n)), some (.sh (.list ds)), some (.sh (.list es)), some (.sh d)]) rfl rfl ?_
 repeat' (first|(with_reducible first|assumption|exact Q3|exact Z6|exact KC|exact QG|exact Qu|apply Qo|exact UH|exact Xl|exact Q1|exact QD|exact QQ|apply Qn|apply QC|apply Zq|apply QS|apply Xp|apply Qs|apply QL|apply Qw|apply Qz|apply Q2|apply Xy|apply XC|apply XB|apply Qt|apply Q7|apply Xb|apply Zn|apply Ho|exact Hp|apply Hr|apply Ht|apply Hu|apply Hv|apply HB|apply HI|apply HJ|apply HK|apply HN|apply HO|apply HP|apply HX|exact HY|apply H1|exact HC|apply HH|apply HL|apply HR|exact HT|apply HV|apply X8|apply Z0|exact H4)|exact QR rfl|exact (rfl : Qj _ = true)|(show List.all _ _ = true; rfl)|exact (rfl : (_ : Option _) = some _)|decide)
theorem Zv (K : Frag) {C : Addr} {i : Nat} (hi : i < 7) (hK : ExcI K C i) {a b c : D} (h : JH (Xx K) [a, b, c] = .exc C) : QU K [.int 0, a, b, c] = .ok (told (WD i)) := by
 have w : Yn K [.exc C] = .ok (told (WD i)) := J0 K C i hi hK
 have mm := hK.m
 have e1 : eqI (.int 0) (.int 0) = some (.sh (.bool true)) := B7 0
 have s1 : (Wh 210 ["bells", "steps", "ways"] (Xx K) (Qa (eOp 1) (Qa (eOp 2) (Qa (eOp 3) Qm)))) [some (.sh (.int 0)), some (.sh a), some (.sh b), some (.sh c), none] = .exc C [some (.sh (.int 0)), some (.sh a), some (.sh b), some (.sh c), none] := by
  refine EW (bs := [.var 1, .var 2, .var 3]) (ds := [a, b, c]) ?_ ?_ rfl h
  ·repeat' (first|(with_reducible first|assumption|exact XF|exact KC|exact Qu|apply Qo|apply Qn|apply QC|apply JG|apply Qs|apply Qw|apply Qt|apply Q7|apply Q6|apply Xb|apply Ov|exact Hp|apply Hu|apply Hv|apply HW|exact HY|exact HS|exact HT|apply HU|apply H2)|exact QR rfl|exact (rfl : Qj _ = true)|(show List.all _ _ = true; rfl)|exact (rfl : (_ : Option _) = some _)|decide)
  ·repeat' (first|(with_reducible first|assumption|exact XF|exact KC|exact Qu|apply Qo|apply Qn|apply QC|apply JG|apply Qs|apply Qw|apply Qt|apply Q7|apply Q6|apply Xb|apply Ov|exact Hp|apply Hu|apply Hv|apply HW|exact HY|exact HS|exact HT|apply HU|apply H2)|exact QR rfl|exact (rfl : Qj _ = true)|(show List.all _ _ = true; rfl)|exact (rfl : (_ : Option _) = some _)|decide)
 unfold QU Jp
 refine' Xj [some (.sh (.int 0)), some (.sh a), some (.sh b), some (.sh c), none] rfl rfl ?_ XD
 repeat' (first|(with_reducible first|assumption|exact XF|exact KC|exact Qu|apply Qo|apply Qn|apply QC|apply JG|apply Qs|apply Qw|apply Qt|apply Q7|apply Q6|apply Xb|apply Ov|exact Hp|apply Hu|apply Hv|apply HW|exact HY|exact HS|exact HT|apply HU|apply H2)|exact QR rfl|exact (rfl : Qj _ = true)|(show List.all _ _ = true; rfl)|exact (rfl : (_ : Option _) = some _)|decide)
theorem BQ (K : Frag) (hK : ExcI K 49 1) {n : Nat} {chs ws : List (List Nat)} {d e : D} (h : QH K [mth n chs ws, d] = .exc 49) : QU K [.int 1, mth n chs ws, d, e] = .ok (told "row") := by
 have w : Yn K [.exc 49] = .ok (told "row") := J0 K 49 1 (by decide) hK
 have mm := hK.m
 have l := OI K h
 have e1 : eqI (.int 1) (.int 0) = some (.sh (.bool false)) := BV (by decide)
 have e2 : eqI (.int 1) (.int 1) = some (.sh (.bool true)) := B7 1
 unfold QU Jp
 refine' Xj [some (.sh (.int 1)), some (.sh (mth n chs ws)), some (.sh d), some (.sh e), none] rfl rfl ?_ XD
 unfold mth at *
 repeat' (first|(with_reducible first|assumption|exact XF|exact KC|exact Qu|apply Qo|exact UH|apply Qn|apply JG|apply Qs|apply Qw|apply Qt|apply Q7|apply Q6|apply Xb|apply Ov|apply ZO|exact Hp|apply Hu|apply HW|exact HY|exact HS|exact HT|apply HU|apply HV|apply H2|apply H5)|exact QR rfl|exact (rfl : Qj _ = true)|(show List.all _ _ = true; rfl)|exact (rfl : (_ : Option _) = some _)|decide)
theorem Bb (K : Frag) {n : Nat} {chs ws : List (List Nat)} {d e : D} (h : QH K [mth n chs ws, d] = .exc 49) : Xu K [mth n chs ws, d, e] = .exc 49 := by
 have l := OI K h
 unfold Xu ZW
 refine' Xj [some (.sh (mth n chs ws)), some (.sh d), some (.sh e), none] rfl rfl ?_ YR
 unfold mth at *
 repeat' (first|(with_reducible first|assumption|exact Qu|apply Qo|exact UH|apply Qn|apply Qt|apply Xf|apply ZO|exact H0|exact HT|apply H5)|exact (rfl : Qj _ = true)|(show List.all _ _ = true; rfl)|exact (rfl : (_ : Option _) = some _)|decide)
theorem V9 (K : Frag) {n : Nat} {a : List Int} {chs ws : List (List Nat)} {e : D} (hm : Mth n chs ws) (ra : Row n a) (h : Xr K [mth n chs ws, e] = .exc 85) : Xu K [mth n chs ws, .tup (iL a), e] = .exc 85 := by
 have l := KA K (ws := ws) ra hm.c
 unfold Xu ZW
 refine' Xj [some (.sh (mth n chs ws)), some (.sh (.tup (iL a))), some (.sh e), none] rfl rfl ?_ YR
 unfold mth at *
 repeat' (first|(with_reducible first|assumption|exact UZ|exact Qu|apply Qo|exact UH|apply Qn|apply Qs|apply Qt|apply Xb|apply Xf|apply ZO|exact Hp|exact HY|apply HZ|apply HR|exact HT|apply H5)|exact QR rfl|exact (rfl : Qj _ = true)|(show List.all _ _ = true; rfl)|exact (rfl : (_ : Option _) = some _)|decide)
theorem Kb (K : Frag) {C : Addr} {i : Nat} (hi : i < 7) (hK : ExcI K C i) {n : Nat} {chs ws : List (List Nat)} {d e : D} (h : Xu K [mth n chs ws, d, e] = .exc C) : QU K [.int 2, mth n chs ws, d, e] = .ok (told (WD i)) := by
 have w : Yn K [.exc C] = .ok (told (WD i)) := J0 K C i hi hK
 have mm := hK.m
 have e1 : eqI (.int 2) (.int 0) = some (.sh (.bool false)) := BV (by decide)
 have e2 : eqI (.int 2) (.int 1) = some (.sh (.bool false)) := BV (by decide)
 unfold QU Jp
 refine' Xj [some (.sh (.int 2)), some (.sh (mth n chs ws)), some (.sh d), some (.sh e), none] rfl rfl ?_ XD
 unfold mth at *
 repeat' (first|(with_reducible first|assumption|exact XF|exact KC|exact Qu|apply Qo|exact UH|apply Qn|apply QC|apply JG|apply Qs|apply Qw|apply Qt|apply Q7|apply Q6|apply Xb|apply Ov|apply ZO|exact Hp|apply Hu|apply Hv|apply HW|exact HY|exact HS|exact HT|apply HV|apply H2|apply H5)|exact QR rfl|exact (rfl : Qj _ = true)|(show List.all _ _ = true; rfl)|exact (rfl : (_ : Option _) = some _)|decide)
end Mine
end

section
set_option Elab.async false
set_option maxRecDepth 100000
set_option maxHeartbeats 4000000
set_option linter.unusedSimpArgs false
set_option linter.unusedVariables false
namespace Mine
open PySem PySem.W
theorem Fw (K : Frag) {n : Nat} (i : Nat) (hi : i < 8) : ∃ d, [D.tup [.int ((n : Int) - 1)], .none, .tup [], .tup [.int 0, .int 1], .list [.int 0], .tup [.int (-1)], .tup [.str "0"], .tup [.bool true]][i]? = some d ∧ QW K [.int n, d] = .exc 61 := by
 have tp : ∀ ds : List D, ds ≠ [] → ds.length ≤ 1000000 → (∀ d ∈ ds, Ka d = true) → Ke n (-2) ds = false → QW K [.int n, .tup ds] = .exc 61 := fun ds h1 h2 h3 h4 => by
  rw [JL K n ds h1 h2 h3, h4]; rfl
 match i with
 | 0 =>
  refine ⟨_, rfl, tp _ (by simp) (by simp) (by intro d hd; rw [List.mem_singleton.mp hd]; rfl) ?_⟩
  show (decide ((-2 : Int) + 2 ≤ (n : Int) - 1) && decide ((n : Int) - 1 ≤ n - 2) && true) = false
  rw [decide_eq_false (p := (n : Int) - 1 ≤ n - 2) (by omega), Bool.and_false]; rfl
 | 1 => exact ⟨_, rfl, Ja K n _ rfl (fun _ h => by cases h)⟩
 | 2 => exact ⟨_, rfl, Kc K n⟩
 | 3 =>
  refine ⟨_, rfl, tp _ (by simp) (by simp) (by intro d hd; rcases List.mem_cons.mp hd with rfl | hd; rfl; rw [List.mem_singleton.mp hd]; rfl) ?_⟩
  show (decide ((-2 : Int) + 2 ≤ 0) && decide ((0 : Int) ≤ n - 2) && (decide ((0 : Int) + 2 ≤ 1) && decide ((1 : Int) ≤ n - 2) && true)) = false
  rw [decide_eq_false (p := (0 : Int) + 2 ≤ 1) (by decide), Bool.false_and, Bool.false_and, Bool.and_false]
 | 4 => exact ⟨_, rfl, Ja K n _ rfl (fun _ h => by cases h)⟩
 | 5 =>
  refine ⟨_, rfl, tp _ (by simp) (by simp) (by intro d hd; rw [List.mem_singleton.mp hd]; rfl) ?_⟩
  show (decide ((-2 : Int) + 2 ≤ -1) && decide ((-1 : Int) ≤ n - 2) && true) = false
  rw [decide_eq_false (p := (-2 : Int) + 2 ≤ -1) (by decide), Bool.false_and, Bool.false_and]
 | 6 => exact ⟨_, rfl, tp _ (by simp) (by simp) (by intro d hd; rw [List.mem_singleton.mp hd]; rfl) rfl⟩
 | 7 => exact ⟨_, rfl, tp _ (by simp) (by simp) (by intro d hd; rw [List.mem_singleton.mp hd]; rfl) rfl⟩
theorem EF (K : Frag) {n : Nat} (h3 : 3 ≤ n) (h12 : n ≤ 12) (chs : List (List Nat)) (i : Nat) (hi : i < 4) : ∃ d, [D.none, .tup (chD chs), .int 5, .list (List.replicate 31 (D.tup [.int 0]))][i]? = some d ∧ ∀ c, JH (Xx K) [.int n, d, c] = .exc 73 := by
 match i with
 | 0 => exact ⟨_, rfl, fun c => JT K h3 h12 (by kernel_rfl)⟩
 | 1 => exact ⟨_, rfl, fun c => JT K h3 h12 (by kernel_rfl)⟩
 | 2 => exact ⟨_, rfl, fun c => JT K h3 h12 (by kernel_rfl)⟩
 | 3 => exact ⟨_, rfl, fun c => WO K h3 h12 (by rw [List.length_replicate]; decide) (by rw [List.length_replicate]; decide)⟩
theorem FW (K : Frag) {n : Nat} (h3 : 3 ≤ n) (h12 : n ≤ 12) (ws : List (List Nat)) (i : Nat) (hi : i < 4) : ∃ d, [D.none, .tup (chD ws), .list [], .list (List.replicate 5 (D.tup [.int 0]))][i]? = some d ∧ ∀ ds : List D, ds.length ≤ 30 → JH (Xx K) [.int n, .list ds, d] = .exc 73 := by
 match i with
 | 0 => exact ⟨_, rfl, fun ds h => We K h3 h12 h (by kernel_rfl)⟩
 | 1 => exact ⟨_, rfl, fun ds h => We K h3 h12 h (by kernel_rfl)⟩
 | 2 => exact ⟨_, rfl, fun ds h => KQ K h3 h12 h (by decide) (by decide)⟩
 | 3 => exact ⟨_, rfl, fun ds h => KQ K h3 h12 h (by rw [List.length_replicate]; decide) (by rw [List.length_replicate]; decide)⟩
theorem FH (K : Frag) (i : Nat) (hi : i < 4) : ∃ d, [D.int 2, .int 13, .none, .bool true][i]? = some d ∧ Zi K [d] = .exc 37 := by
 match i with
 | 0 => exact ⟨_, rfl, Z9 K _ rfl fun n h => by cases h; decide⟩
 | 1 => exact ⟨_, rfl, Z9 K _ rfl fun n h => by cases h; decide⟩
 | 2 => exact ⟨_, rfl, Z9 K _ rfl fun n h => by cases h⟩
 | 3 => exact ⟨_, rfl, Z9 K _ rfl fun n h => by cases h⟩
theorem BH (K : Frag) {n : Nat} {chs ws : List (List Nat)} {d : D} (hc : Ka d = true) (ht : ∀ ds, d ≠ .tup ds) : QH K [mth n chs ws, d] = .exc 49 := Yl K (Og K d hc ht)
theorem EZ (K : Frag) {n : Nat} {chs ws : List (List Nat)} {l : List Int} (hl : l.length ≤ 1000) (hn : l.length ≠ n) : QH K [mth n chs ws, .tup (iL l)] = .exc 49 := by
 by_cases h : 3 ≤ l.length ∧ l.length ≤ 12
 ·by_cases hp : l.Perm (rng l.length)
  ·exact K4 K (WN K ⟨hp, h.1, h.2⟩) (by rw [QI]; omega) (by rw [QI]; exact hn)
  ·exact Yl K (WV K l h.1 h.2 hp)
 ·exact Yl K (Bi K (iL l) (by rw [QI]; omega) (by rw [QI]; exact h))
theorem Ej (K : Frag) {n : Nat} {a : List Int} {chs ws : List (List Nat)} (ra : Row n a) : QH K [mth n chs ws, .tup (iL (a.take (n - 1) ++ a.take 1))] = .exc 49 := by
 have h3 := ra.h3
 have h12 := ra.h12
 have la := ra.len
 have hl : (a.take (n - 1) ++ a.take 1).length = n := by rw [List.length_append, List.length_take, List.length_take, la]; omega
 refine Yl K (WV K _ (by omega) (by omega) fun hp => ?_)
 rw [hl] at hp
 have nd : (a.take (n - 1) ++ a.take 1).Nodup := hp.nodup_iff.mpr (FY h3 h12).nodup
 obtain ⟨m, rfl⟩ : ∃ m, n = m + 2 := ⟨n - 2, by omega⟩
 cases a with
 | nil => simp at la
 | cons b r => exact (List.nodup_append.mp nd).2.2 b (by show b ∈ List.take (m + 1) (b :: r); rw [List.take_succ_cons]; exact .head _) b (by show b ∈ List.take 1 (b :: r); exact .head _) rfl
theorem GA (K : Frag) {n : Nat} {a : List Int} {chs ws : List (List Nat)} (ra : Row n a) (i : Nat) (hi : i < 5) : ∃ d, [D.list (iL a), .none, .tup (iL (a.drop 1)), .tup (iL (a.take (n - 1) ++ a.take 1)), .tup (iL (rng (n + 1)))][i]? = some d ∧ QH K [mth n chs ws, d] = .exc 49 := by
 have h3 := ra.h3
 have h12 := ra.h12
 have la := ra.len
 match i with
 | 0 => exact ⟨_, rfl, BH K rfl (fun _ h => by cases h)⟩
 | 1 => exact ⟨_, rfl, BH K rfl (fun _ h => by cases h)⟩
 | 2 => exact ⟨_, rfl, EZ K (by rw [List.length_drop]; omega) (by rw [List.length_drop]; omega)⟩
 | 3 => exact ⟨_, rfl, Ej K ra⟩
 | 4 => exact ⟨_, rfl, EZ K (by rw [ZY]; omega) (by rw [ZY]; omega)⟩
theorem FA (K : Frag) {n : Nat} {chs ws : List (List Nat)} {c : Int} (h4 : ws.length ≤ 4) (hc : 0 ≤ c) (i : Nat) (hi : i < 6) : ∃ d, [D.int (-1), .int (ws.length : Int), .bool true, .none, .str "0", .int ((ws.length : Int) + c)][i]? = some d ∧ Xr K [mth n chs ws, d] = .exc 85 := by
 match i with
 | 0 => exact ⟨_, rfl, Zd K rfl (fun i h => by cases h; omega) h4⟩
 | 1 => exact ⟨_, rfl, Zd K rfl (fun i h => by cases h; omega) h4⟩
 | 2 => exact ⟨_, rfl, Zd K rfl (fun i h => by cases h) h4⟩
 | 3 => exact ⟨_, rfl, Zd K rfl (fun i h => by cases h) h4⟩
 | 4 => exact ⟨_, rfl, Zd K rfl (fun i h => by cases h) h4⟩
 | 5 => exact ⟨_, rfl, Zd K rfl (fun i h => by cases h; omega) h4⟩
theorem Kl {l : List D} {i : Nat} {d : D} (hi : i < 8) (h : l[i]? = some d) : QT (.list l) (.int (i : Int)) = some (.sh d) := Jk (by omega) (by omega) (by rw [Int.toNat_natCast]; exact h)
theorem Jr (c : Int) {k : Nat} (hk : 0 < k) : ∃ i : Nat, i < k ∧ X4 (.int c) (.int (k : Int)) = some (.sh (.int (i : Int))) := by
 obtain ⟨i, h1, h2⟩ := US c hk
 exact ⟨i, h2, by rw [XW (by omega), h1]⟩
theorem B4 {l : List (List Nat)} (p : Nat) (h : l.length ≤ 1000) : YB (.list (chD l)) none (some (p : Int)) = some (.ow true (.list (chD (l.take p)))) := by
 rw [UR (by rw [QP]; omega), Db]
 unfold chD; rw [List.map_take]
theorem OW {l : List (List Nat)} {p : Nat} (hp : p ≤ l.length) (h : l.length ≤ 1000) : YB (.list (chD l)) (some (p : Int)) none = some (.ow true (.list (chD (l.drop p)))) := by
 rw [UR (by rw [QP]; omega), OF (by rw [QP]; exact hp)]
 unfold chD; rw [List.map_drop]
theorem Fn (l r : List (List Nat)) : chD (l ++ r) = chD l ++ chD r := List.map_append
end Mine
end

section
set_option Elab.async false
set_option maxRecDepth 100000
set_option maxHeartbeats 4000000
set_option linter.unusedSimpArgs false
set_option linter.unusedVariables false
namespace Mine
open PySem PySem.W
theorem Kk (K : Frag) (kf : KF03 K) {n : Nat} {chs ws : List (List Nat)} (hm : Mth n chs ws) (h1 : 1 ≤ ws.length) {c : Int} (hc : 0 ≤ c) : YN K [mth n chs ws, .int n, .list (chD chs), .list (chD ws), .int c] = .ok (.sh (.bool true)) := by
 have h3 := hm.c.h3
 have h12 := hm.c.h12
 have h4 := hm.l
 have hl := hm.c.len
 have lA : (chD chs).length ≤ 1000000 := by rw [QP]; omega
 have lB : (chD ws).length ≤ 1000000 := by rw [QP]; omega
 obtain ⟨i8, b8, m8⟩ := Jr c (k := 8) (by decide)
 have m8 : X4 (.int c) (.int 8) = some (.sh (.int (i8 : Int))) := m8
 obtain ⟨d, x8, hd⟩ := Fw K (n := n) i8 b8
 have x8 := Kl b8 x8
 have o1 : Oy (.int (n : Int)) (.int 1) = some (.sh (.int ((n : Int) - 1))) := rfl
 have o2 : Us (.int 1) = some (.sh (.int (-1))) := rfl
 have o3 : YW (.int c) (.int 8) = some (.sh (.int (c.fdiv 8))) := XY (by decide)
 have o4 : YW (.int c) (.int 300) = some (.sh (.int (c.fdiv 300))) := XY (by decide)
 have e1 := XE lA
 rw [QP] at e1
 have e2 := XE lB
 rw [QP] at e2
 obtain ⟨p, bp, mp⟩ := Jr (c.fdiv 8) (k := chs.length + 1) (by omega)
 have mp : X4 (.int (c.fdiv 8)) (.int ((chs.length : Int) + 1)) = some (.sh (.int (p : Int))) := mp
 obtain ⟨q, bq, mq⟩ := Jr (c.fdiv 300) (k := ws.length) (by omega)
 have y1 := B4 (l := chs) p (by omega)
 have y2 := OW (l := chs) (p := p) (by omega) (by omega)
 have y3 : Xg (.list (chD (chs.take p))) (.list [d]) = some (.ow true (.list (chD (chs.take p) ++ [d]))) := Up (by rw [QP, List.length_take]; simp; omega)
 have y4 : Xg (.list (chD (chs.take p) ++ [d])) (.list (chD (chs.drop p))) = some (.ow true (.list (chD (chs.take p) ++ [d] ++ chD (chs.drop p)))) := Up (by rw [List.length_append, QP, QP, List.length_take, List.length_drop]; simp; omega)
 have z1 := B4 (l := ws) q (by omega)
 have z2 : YB (.list (chD ws)) (some ((q : Int) + 1)) none = some (.ow true (.list (chD (ws.drop (q + 1))))) := OW (l := ws) (p := q + 1) (by omega) (by omega)
 have z3 : Xg (.list (chD (ws.take q))) (.list [d]) = some (.ow true (.list (chD (ws.take q) ++ [d]))) := Up (by rw [QP, List.length_take]; simp; omega)
 have z4 : Xg (.list (chD (ws.take q) ++ [d])) (.list (chD (ws.drop (q + 1)))) = some (.ow true (.list (chD (ws.take q) ++ [d] ++ chD (ws.drop (q + 1))))) := Up (by rw [List.length_append, QP, QP, List.length_take, List.length_drop]; simp; omega)
 obtain ⟨i4, b4, m4⟩ := Jr (c.fdiv 8) (k := 4) (by decide)
 have m4 : X4 (.int (c.fdiv 8)) (.int 4) = some (.sh (.int (i4 : Int))) := m4
 obtain ⟨nd, x4, hn⟩ := EF K h3 h12 chs i4 b4
 have x4 := Kl (by omega) x4
 obtain ⟨fd, x5, hf⟩ := FW K h3 h12 ws i4 b4
 have x5 := Kl (by omega) x5
 have g1 := Yr lA
 have g2 := Yr lB
 have g3 : Wr (.list [.tup [.int 0]]) (.int 31) = some (.ow true (.list (List.replicate 31 (D.tup [.int 0])))) := Fe (by decide)
 have g4 : Wr (.list [.tup [.int 0]]) (.int 5) = some (.ow true (.list (List.replicate 5 (D.tup [.int 0])))) := Fe (by decide)
 obtain ⟨j4, c4, n4⟩ := Jr c (k := 4) (by decide)
 have n4 : X4 (.int c) (.int 4) = some (.sh (.int (j4 : Int))) := n4
 obtain ⟨bd, x6, hb⟩ := FH K j4 c4
 have x6 := Kl (by omega) x6
 obtain ⟨a, r1, ra⟩ := WK K c n h3 h12
 have la := ra.len
 have w0 := V6 (ds := iL a) (by rw [QI]; omega)
 have w1 : YB (.tup (iL a)) none (some (-1)) = some (.sh (.tup (iL (a.take (n - 1))))) := by
  rw [OA (by rw [QI]; omega)]
  have : clipAt (iL a).length (-1) = n - 1 := by
   have h := clipAt_neg (iL a).length 1 (by decide)
   rw [QI, la] at h ⊢
   exact h
  show some (T.sh (.tup ((iL a).take (clipAt (iL a).length (-1) - 0)))) = _
  rw [this]
  exact congrArg (fun l => some (T.sh (.tup l))) List.map_take.symm
 have w2 : YB (.tup (iL a)) none (some 1) = some (.sh (.tup (iL (a.take 1)))) := by
  rw [OA (by rw [QI]; omega), show (1 : Int) = ((1 : Nat) : Int) from rfl, Db]
  unfold iL; rw [List.map_take]
 have w3 : Xg (.tup (iL (a.take (n - 1)))) (.tup (iL (a.take 1))) = some (.sh (.tup (iL (a.take (n - 1) ++ a.take 1)))) := by
  rw [GI (by rw [QI, QI, List.length_take, List.length_take]; omega)]
  unfold iL; rw [List.map_append]
 have w4 : YB (.tup (iL a)) (some 1) none = some (.sh (.tup (iL (a.drop 1)))) := by
  have := OF (ds := iL a) (p := 1) (by rw [QI]; omega)
  rw [OA (by rw [QI]; omega), show (1 : Int) = ((1 : Nat) : Int) from rfl, this]
  unfold iL; rw [List.map_drop]
 have w5 : YI [.int ((n : Int) + 1)] = some (.sh (.range 0 ((n : Int) + 1) 1)) := rfl
 have w6 : Yz [.range 0 ((n : Int) + 1) 1] = some (.sh (.tup (iL (rng (n + 1))))) := D5 (n + 1) (by omega)
 obtain ⟨i5, b5, m5⟩ := Jr c (k := 5) (by decide)
 have m5 : X4 (.int c) (.int 5) = some (.sh (.int (i5 : Int))) := m5
 obtain ⟨wd, x7, hw⟩ := GA K (chs := chs) (ws := ws) ra i5 b5
 have x7 := Kl (by omega) x7
 obtain ⟨i6, b6, m6⟩ := Jr c (k := 6) (by decide)
 have m6 : X4 (.int c) (.int 6) = some (.sh (.int (i6 : Int))) := m6
 obtain ⟨ud, x9, hu⟩ := FA K (n := n) (chs := chs) h4 hc i6 b6
 have x9 := Kl (by omega) x9
 have lS : (chD (chs.take p) ++ [d] ++ chD (chs.drop p)).length = chs.length + 1 := by rw [List.length_append, List.length_append, QP, QP, List.length_take, List.length_drop]; simp; omega
 have lE : (chD (ws.take q) ++ [d] ++ chD (ws.drop (q + 1))).length = ws.length := by rw [List.length_append, List.length_append, QP, QP, List.length_take, List.length_drop]; simp; omega
 have t0 : QU K [.int 0, bd, nd, fd] = .ok (told "bells") := Zv K (i := 0) (by decide) kf.bells (FM K hb)
 have t1 : QU K [.int 0, .int n, nd, .list (chD ws)] = .ok (told "method") := Zv K (i := 3) (by decide) kf.method (hn _)
 have t2 : QU K [.int 0, .int n, .list (chD chs), fd] = .ok (told "method") := Zv K (i := 3) (by decide) kf.method (hf _ (by rw [QP]; exact hl))
 have t3 : QU K [.int 0, .int n, nd, fd] = .ok (told "method") := Zv K (i := 3) (by decide) kf.method (hn _)
 have t4 : QU K [.int 0, .int n, nd, .list (chD (ws.take q) ++ [d] ++ chD (ws.drop (q + 1)))] = .ok (told "method") := Zv K (i := 3) (by decide) kf.method (hn _)
 have t5 : QU K [.int 0, .int n, .list (chD (chs.take p) ++ [d] ++ chD (chs.drop p)), fd] = .ok (told "method") := Zv K (i := 3) (by decide) kf.method (by
  by_cases h : (chD (chs.take p) ++ [d] ++ chD (chs.drop p)).length ≤ 30
  ·exact hf _ h
  ·exact WO K h3 h12 (by omega) (by omega))
 have t6 : chs.length < 30 → QU K [.int 0, .int n, .list (chD (chs.take p) ++ [d] ++ chD (chs.drop p)), .list (chD ws)] = .ok (told "change") := fun h => Zv K (i := 2) (by decide) kf.change (BA K h3 h12 (good := chs.take p) (r := chD (chs.drop p) ++ chD ws) (by omega) (by rw [QP]; exact h1) (by rw [QP]; exact h4) (by simp) (fun x hx => hm.c.all x (List.mem_of_mem_take hx)) hd)
 have t7 : QU K [.int 0, .int n, .list (chD chs), .list (chD (ws.take q) ++ [d] ++ chD (ws.drop (q + 1)))] = .ok (told "change") := Zv K (i := 2) (by decide) kf.change (BA K h3 h12 (good := chs ++ ws.take q) (r := chD (ws.drop (q + 1))) (by rw [QP]; exact hl) (by omega) (by omega) (by rw [Fn]; simp) (fun x hx => (List.mem_append.mp hx).elim (hm.c.all x) fun hx => hm.w x (List.mem_of_mem_take hx)) hd)
 have t8 : QU K [.int 1, mth n chs ws, wd, ud] = .ok (told "row") := BQ K kf.row hw
 have t9 : QU K [.int 2, mth n chs ws, wd, ud] = .ok (told "row") := Kb K (i := 1) (by decide) kf.row (Bb K hw)
 have t10 : QU K [.int 2, mth n chs ws, .tup (iL a), ud] = .ok (told "call") := Kb K (i := 4) (by decide) kf.call (V9 K hm ra hu)
 have u0 := Oe "bells" Ei
 have u1 := Oe "method" DK
 have u2 := Oe "change" DF
 have u3 := Oe "row" Gj
 have u4 := Ft "call" FR
 unfold told at t0 t1 t2 t3 t4 t5 t6 t7 t8 t9 t10
 clear hd hn hf hb hw hu lS lE la ra hm
 generalize (chD (chs.take p) ++ [d] ++ chD (chs.drop p)) = S at *
 generalize (chD (ws.take q) ++ [d] ++ chD (ws.drop (q + 1))) = E at *
 generalize (List.replicate 31 (D.tup [.int 0])) = R1 at *
 generalize (List.replicate 5 (D.tup [.int 0])) = R2 at *
 generalize mth n chs ws = Mm at *
 have s11 : (sIf (KI (Q9 ltI (Qd (Xc YK (Qa (eOp 2) Qm))) (Qd (Qb (.int 30)))) (KI (Q9 neI (Qd (QV (QU K) (Qa (Qd (Qb (.int 0))) (Qa (eOp 1) (Qa (eOp 7) (Qa (eOp 3) Qm)))))) (Qd (XV (Qp (Qb (.str "refused")) (Qp (Qb (.str "change")) Xd))))) Ul)) (Qr (Za (Qb (.bool false))) QF) QF) [some (.sh Mm), some (.sh (.int n)), some (.sh (.list (chD chs))), some (.sh (.list (chD ws))), some (.sh (.int c)), some (.sh d), some (.sh (.int p)), some (.sh (.list S)), some (.sh (.int q)), some (.sh (.list E)), some (.sh nd), some (.sh fd), some (.ow true (.list [.tup [nd, .list (chD ws)], .tup [.list (chD chs), fd], .tup [nd, fd]])), some (.sh (.tup [.list S, fd])), none, none, none, none, none] = .ok .next [some (.sh Mm), some (.sh (.int n)), some (.sh (.list (chD chs))), some (.sh (.list (chD ws))), some (.sh (.int c)), some (.sh d), some (.sh (.int p)), some (.sh (.list S)), some (.sh (.int q)), some (.sh (.list E)), some (.sh nd), some (.sh fd), some (.ow true (.list [.tup [nd, .list (chD ws)], .tup [.list (chD chs), fd], .tup [nd, fd]])), some (.sh (.tup [.list S, fd])), none, none, none, none, none] := by
  by_cases h30 : chs.length < 30
  ·have e30 := C7 (a := (chs.length : Int)) (b := 30) (by omega)
   have t6 := t6 h30
   repeat' (first|(with_reducible first|assumption|exact Q3|exact Z6|exact XF|exact YF|exact Y2|exact ES|exact FV|exact DP|exact Ey|exact EU|exact E1|exact E8|exact Ez|exact Et|exact Ew|apply GE|exact QG|exact Qu|apply Qo|exact X5|apply X6|exact Xl|exact Q0|exact Q5|exact QX|exact U4|exact QD|apply Of|apply Qn|apply QC|apply QJ|apply Xi|apply Zq|apply Xs|apply QS|apply Xp|apply Qs|apply QL|apply Qw|apply QM|apply O6|apply Ut|apply Zc|apply XU|apply Kg|apply UJ|apply XB|apply Qt|apply Q7|apply Q6|apply Xf|apply Zn|apply XY|apply Ho|apply Hq|apply Hs|apply Hr|apply Ht|apply Hu|apply Hv|apply Hw|apply Hx|apply Hy|apply Hz|apply HA|apply HI|apply HJ|apply HP|apply HW|apply HZ|apply H1|apply HE|exact HF|apply HR|exact HS|apply HV|exact V3|apply X8|apply Z0|apply H3|exact ix0|exact ix1)|exact QR rfl|exact (rfl : Qj _ = true)|(show List.all _ _ = true; rfl)|exact Xk rfl|apply Ye rfl|exact (rfl : (_ : Option _) = some _)|decide)
  ·have e30 := Dh (a := (chs.length : Int)) (b := 30) (by omega)
   repeat' (first|(with_reducible first|assumption|exact Q3|exact Z6|exact XF|exact YF|exact Y2|exact ES|exact FV|exact DP|exact Ey|exact EU|exact E1|exact E8|exact Ez|exact Et|exact Ew|apply GE|exact QG|exact Qu|apply Qo|exact X5|apply X6|exact Xl|exact Q0|exact Q5|exact QX|exact U4|exact QD|apply Of|apply Qn|apply QC|apply QJ|apply Xi|apply Zq|apply Xs|apply QS|apply Xp|apply Qs|apply QL|apply Qw|apply QM|apply O6|apply Ut|apply Zc|apply XU|apply Kg|apply UJ|apply XB|apply Qt|apply Q7|apply Q6|apply Xf|apply Zn|apply XY|apply Ho|apply Hq|apply Hs|apply Hr|apply Ht|apply Hu|apply Hv|apply Hw|apply Hx|apply Hy|apply Hz|apply HA|apply HI|apply HJ|apply HP|apply HW|apply HZ|apply H1|apply HE|exact HF|apply HR|exact HS|apply HV|exact V3|apply X8|apply Z0|apply H3|exact ix0|exact ix1)|exact QR rfl|exact (rfl : Qj _ = true)|(show List.all _ _ = true; rfl)|exact Xk rfl|apply Ye rfl|exact (rfl : (_ : Option _) = some _)|decide)
 clear t6
 have p0 : Xg (.list [.tup [nd, .list (chD ws)], .tup [.list (chD chs), fd], .tup [nd, fd]]) (.list [.tup [nd, .list E], .tup [.list S, fd]]) = some (.ow true (.list [.tup [nd, .list (chD ws)], .tup [.list (chD chs), fd], .tup [nd, fd], .tup [nd, .list E], .tup [.list S, fd]])) := rfl
 have p1 : Zt (.list [.tup [nd, .list (chD ws)], .tup [.list (chD chs), fd], .tup [nd, fd], .tup [nd, .list E], .tup [.list S, fd]]) = some [.tup [nd, .list (chD ws)], .tup [.list (chD chs), fd], .tup [nd, fd], .tup [nd, .list E], .tup [.list S, fd]] := rfl
 have p2 : Zt (.tup [.int 1, .int 2]) = some [.int 1, .int 2] := rfl
 unfold YN JX
 refine' Xj [some (.sh Mm), some (.sh (.int n)), some (.sh (.list (chD chs))), some (.sh (.list (chD ws))), some (.sh (.int c)), none, none, none, none, none, none, none, none, none, none, none, none, none, none] rfl rfl ?_ XD
 repeat' (first|(with_reducible first|assumption|exact Q3|exact Z6|exact XF|exact YF|exact Y2|exact ES|exact FV|exact DP|exact Ey|exact EU|exact E1|exact E8|exact Ez|exact Et|exact Ew|apply GE|exact QG|exact Qu|apply Qo|exact X5|apply X6|exact Xl|exact Q0|exact Q5|exact QX|exact U4|exact QD|apply Of|apply Qn|apply QC|apply QJ|apply Xi|apply Zq|apply Xs|apply QS|apply Xp|apply Qs|apply QL|apply Qw|apply QM|apply O6|apply Ut|apply Zc|apply XU|apply Kg|apply UJ|apply XB|apply Qt|apply Q7|apply Q6|apply Xf|apply Zn|apply XY|apply Ho|apply Hq|apply Hs|apply Hr|apply Ht|apply Hu|apply Hv|apply Hw|apply Hx|apply Hy|apply Hz|apply HA|apply HI|apply HJ|apply HP|apply HW|apply HZ|apply H1|apply HE|exact HF|apply HR|exact HS|apply HV|exact V3|apply X8|apply Z0|apply H3|exact ix0|exact ix1)|exact QR rfl|exact (rfl : Qj _ = true)|(show List.all _ _ = true; rfl)|exact Xk rfl|apply Ye rfl|exact (rfl : (_ : Option _) = some _)|decide)
end Mine
end

section
set_option Elab.async false
set_option maxRecDepth 100000
set_option maxHeartbeats 4000000
set_option linter.unusedSimpArgs false
set_option linter.unusedVariables false
namespace Mine
open PySem PySem.W
noncomputable def BZ (h : D) : Prop := ∃ x, h = .tup [x, x] ∧ neI x x = some (.sh (.bool false))
theorem Km (chs ws : List (List Nat)) : BZ (Y9 chs ws) := ⟨_, rfl, Cj chs ws⟩
theorem D7 (l : List (List Int)) : BZ (.tup [.list (Q8 l), .list (Q8 l)]) := ⟨_, rfl, Ks (On l)⟩
theorem U5 {H : List D} {h : D} (hH : ∀ x ∈ H, BZ x) (hh : BZ h) : ∀ x ∈ H ++ [h], BZ x := fun x hx => (List.mem_append.mp hx).elim (hH x) fun hx => by rw [List.mem_singleton.mp hx]; exact hh
theorem DG {H : List D} (hH : ∀ x ∈ H, BZ x) (hl : H.length ≤ 1000000) : YG (XG 1) (Q9 neI (Qd (Qq QT (eOp 1) (Qd (Qb (.int 0))))) (Qd (Qq QT (eOp 1) (Qd (Qb (.int 1)))))) (XM 1) [none, none] H [] = some [] := by
 have := WI (b := XG 1) (t := Q9 neI (Qd (Qq QT (eOp 1) (Qd (Qb (.int 0))))) (Qd (Qq QT (eOp 1) (Qd (Qb (.int 1)))))) (f := XM 1) (ρ₀ := [none, none]) (q := fun _ => false) (g := fun d => d) H [] (fun d hd => ?_) (by simpa using hl)
 ·rw [this]; simp
 ·obtain ⟨x, rfl, hx⟩ := hH d hd
  refine ⟨[none, some (.sh (.tup [x, x]))], [none, some (.sh (.tup [x, x]))], rfl, ?_, fun q => by cases q⟩
  repeat' (first|(with_reducible first|assumption|exact Q3|exact XF|exact QG|apply Xi|apply QS|apply Qs|apply Ho|apply HI|apply HJ|exact ix0|exact ix1)|exact (rfl : Qj _ = true)|(show List.all _ _ = true; rfl)|exact (rfl : (_ : Option _) = some _)|decide)
noncomputable def enI (p : Nat) (l : List Int) : List D := ((iL l).zipIdx p).map fun x => D.tup [.int x.2, x.1]
theorem EE (p : Nat) (a : Int) (l : List Int) : enI p (a :: l) = .tup [.int p, .int a] :: enI (p + 1) l := by
 unfold enI iL; rw [List.map_cons, List.zipIdx_cons, List.map_cons]
structure Two (B Md : List D) : Prop where
 pick : ∀ i : Nat, i < 2 → ∃ n chs ws, Mth n chs ws ∧ 1 ≤ ws.length ∧ QT (.list B) (.int (i : Int)) = some (.sh (.int (n : Nat))) ∧ QT (.list Md) (.int (i : Int)) = some (.sh (.tup [mth n chs ws, .list (chD chs), .list (chD ws)]))
theorem Ee (K : Frag) {ns : List Int} {B Md : List D} (two : Two B Md) : ∀ (cells : List Int) (j : Nat) (H : List D) (v4 v5 v6 v7 v8 v9 : Option T), (∀ x ∈ H, BZ x) → H.length + 2 * cells.length ≤ 1000 → ∃ H' v4' v5' v6' v7' v8' v9', (∀ x ∈ H', BZ x) ∧ H'.length ≤ 1000 ∧
  ZT (Y6 [4, 5]) (Qr (Qy 6 (Qq X4 (eOp 5) (Qd (Qb (.int 2))))) (Qr (Wd [7, 8, 9] (Qq QT (eOp 2) (eOp 6))) (Qr (sIf (eOr (Q9 isI (eOp 7) (Qd (Qb .none))) (eOr (Yb (Xm (Qd (Uo 3 (Yo K) (Qa (eOp 7) (Qa (Qd (Qq QT (eOp 1) (eOp 6))) (Qa (eOp 8) (Qa (eOp 9) (Qa (eOp 3) Qm))))))))) Zm)) (Qr (Za (Qb (.bool false))) QF) QF) (Qr (sIf (Yb (Xm (Qd (Uo 3 (ZG K) (Qa (eOp 7) (Qa (eOp 8) (Qa (eOp 9) (Qa (Qd (QV (Jj K) (Qa (Qd (Qq Xg (Qd (Qq YW (eOp 5) (Qd (Qb (.int 2))))) (eOp 4))) (Qa (Qd (Qq QT (eOp 1) (eOp 6))) Qm)))) (Qa (eOp 3) Qm))))))))) (Qr (Za (Qb (.bool false))) QF) QF) QF)))) (enI j cells) [some (.sh (.list (iL ns))), some (.ow true (.list B)), some (.ow true (.list Md)), some (.ow true (.list H)), v4, v5, v6, v7, v8, v9] = .ok .next [some (.sh (.list (iL ns))), some (.ow true (.list B)), some (.ow true (.list Md)), some (.ow true (.list H')), v4', v5', v6', v7', v8', v9'] := by
 intro cells
 induction cells with
 | nil => intro j H v4 v5 v6 v7 v8 v9 hH hl; exact ⟨H, v4, v5, v6, v7, v8, v9, hH, by simpa using hl, rfl⟩
 | cons cc cells ih =>
  intro j H v4 v5 v6 v7 v8 v9 hH hl
  rw [List.length_cons] at hl
  obtain ⟨i, bi, mi⟩ := Jr cc (k := 2) (by decide)
  have mi : X4 (.int cc) (.int 2) = some (.sh (.int (i : Int))) := mi
  obtain ⟨n, chs, ws, hm, h1, x1, x2⟩ := two.pick i bi
  have k1 := Kn K hm
  have d1 : YW (.int cc) (.int 2) = some (.sh (.int (cc.fdiv 2))) := XY (by decide)
  obtain ⟨a, r1, ra⟩ := WK K (cc.fdiv 2 + j) n hm.c.h3 hm.c.h12
  have d2 : Xg (.int (cc.fdiv 2)) (.int (j : Int)) = some (.sh (.int (cc.fdiv 2 + j))) := rfl
  have k2 := OU K hm ra
  have hL1 : H.length ≤ 1000000 := by omega
  have hL2 : (H ++ [Y9 chs ws]).length ≤ 1000000 := by rw [List.length_append, List.length_singleton]; omega
  obtain ⟨H', v4', v5', v6', v7', v8', v9', g1, g2, q⟩ := ih (j + 1) (H ++ [Y9 chs ws] ++ [.tup [.list (Q8 (XH a chs)), .list (Q8 (XH a chs))]]) (some (.sh (.int j))) (some (.sh (.int cc))) (some (.sh (.int i))) (some (.sh (mth n chs ws))) (some (.sh (.list (chD chs)))) (some (.sh (.list (chD ws)))) (U5 (U5 hH (Km chs ws)) (D7 _)) (by rw [List.length_append, List.length_append, List.length_singleton, List.length_singleton]; omega)
  refine ⟨H', v4', v5', v6', v7', v8', v9', g1, g2, ?_⟩
  have s2 : (Wd [7, 8, 9] (Qq QT (eOp 2) (eOp 6))) [some (.sh (.list (iL ns))), some (.ow true (.list B)), some (.ow true (.list Md)), some (.ow true (.list H)), some (.sh (.int j)), some (.sh (.int cc)), some (.sh (.int i)), v7, v8, v9] = .ok .next [some (.sh (.list (iL ns))), some (.ow true (.list B)), some (.ow true (.list Md)), some (.ow true (.list H)), some (.sh (.int j)), some (.sh (.int cc)), some (.sh (.int i)), some (.sh (mth n chs ws)), some (.sh (.list (chD chs))), some (.sh (.list (chD ws)))] := by
   refine Da (d := .tup [mth n chs ws, .list (chD chs), .list (chD ws)]) (ρ₁ := [some (.sh (.list (iL ns))), some (.ow true (.list B)), some (.ow true (.list Md)), some (.ow true (.list H)), some (.sh (.int j)), some (.sh (.int cc)), some (.sh (.int i)), v7, v8, v9]) ?_ rfl
   repeat' (first|(with_reducible first|assumption|exact Q3|exact XF|exact UZ|exact KC|exact YF|exact Y2|exact QG|exact Qu|apply Qo|apply Yg|exact Q5|exact Q1|exact QD|apply Qn|apply QC|apply QJ|apply Xi|apply Zq|apply Xs|apply JG|apply Xp|apply Qs|apply Qw|apply Qz|apply Q2|apply Xy|apply Qt|apply Q7|apply Xf|apply XY|apply Oq|apply ZJ|apply Ho|apply Hs|apply Hr|apply Hu|apply Hv|apply Hw|apply HB|apply HZ|exact HC|apply HH|apply HR|apply HV|apply X8|apply H3)|exact QR rfl|exact (rfl : Qj _ = true)|(show List.all _ _ = true; rfl)|exact (rfl : (_ : Option _) = some _)|decide)
  have n1 : isI (mth n chs ws) .none = some (.sh (.bool false)) := rfl
  rw [EE]
  clear ih hm ra g1 hH
  generalize mth n chs ws = Mm at *
  generalize Y9 chs ws = Kd at *
  repeat' (first|(with_reducible first|assumption|exact Q3|exact XF|exact UZ|exact KC|exact YF|exact Y2|exact QG|exact Qu|apply Qo|apply Yg|exact Q5|exact Q1|exact QD|apply Qn|apply QC|apply QJ|apply Xi|apply Zq|apply Xs|apply JG|apply Xp|apply Qs|apply Qw|apply Qz|apply Q2|apply Xy|apply Qt|apply Q7|apply Xf|apply XY|apply Oq|apply ZJ|apply Ho|apply Hs|apply Hr|apply Hu|apply Hv|apply Hw|apply HB|apply HZ|exact HC|apply HH|apply HR|apply HV|apply X8|apply H3)|exact QR rfl|exact (rfl : Qj _ = true)|(show List.all _ _ = true; rfl)|exact (rfl : (_ : Option _) = some _)|decide)
theorem law03_plain (K : Frag) (kf : KF03 K) (ns : List Int) (hl : ns.length ≤ 63) : CW K [.list (iL ns)] = .ok (.sh (.bool true)) := by
 have c0 : XO K [.list (iL ns), .int 0] = .ok (.sh (.int (ns.getD 0 0))) := Yh K ns 0 hl
 have c21 : XO K [.list (iL ns), .int 21] = .ok (.sh (.int (ns.getD 21 0))) := Yh K ns 21 hl
 obtain ⟨a0, b0, m0⟩ := Jr (ns.getD 0 0) (k := 10) (by decide)
 have m0 : X4 (.int (ns.getD 0 0)) (.int 10) = some (.sh (.int (a0 : Int))) := m0
 have o1 : YW (.int (ns.getD 0 0)) (.int 10) = some (.sh (.int ((ns.getD 0 0).fdiv 10))) := XY (by decide)
 obtain ⟨a1, b1, m1⟩ := Jr ((ns.getD 0 0).fdiv 10) (k := 10) (by decide)
 have m1 : X4 (.int ((ns.getD 0 0).fdiv 10)) (.int 10) = some (.sh (.int (a1 : Int))) := m1
 have o2 : Xg (.int 3) (.int (a0 : Int)) = some (.sh (.int ((3 + a0 : Nat) : Int))) := rfl
 have o3 : Xg (.int 3) (.int (a1 : Int)) = some (.sh (.int ((3 + a1 : Nat) : Int))) := rfl
 obtain ⟨chs0, ws0, f0, hm0, w0⟩ := Wm K (n := 3 + a0) (st := 1) (ns := ns) hl (by omega) (by omega)
 have f0 : Yq K [.list (iL ns), .int 1, .int ((3 + a0 : Nat) : Int)] = .ok (.sh (.tup [mth (3 + a0) chs0 ws0, .list (chD chs0), .list (chD ws0)])) := f0
 obtain ⟨chs1, ws1, f1, hm1, w1⟩ := Wm K (n := 3 + a1) (st := 9) (ns := ns) hl (by omega) (by omega)
 have f1 : Yq K [.list (iL ns), .int 9, .int ((3 + a1 : Nat) : Int)] = .ok (.sh (.tup [mth (3 + a1) chs1 ws1, .list (chD chs1), .list (chD ws1)])) := f1
 have k0 := Kn K hm0
 have k1 := Kn K hm1
 have two : Two [.int ((3 + a0 : Nat) : Int), .int ((3 + a1 : Nat) : Int)] [.tup [mth (3 + a0) chs0 ws0, .list (chD chs0), .list (chD ws0)], .tup [mth (3 + a1) chs1 ws1, .list (chD chs1), .list (chD ws1)]] := ⟨fun i hi => by
  match i with
  | 0 => exact ⟨_, chs0, ws0, hm0, w0, rfl, rfl⟩
  | 1 => exact ⟨_, chs1, ws1, hm1, w1, rfl, rfl⟩⟩
 obtain ⟨i2, b2, m2⟩ := Jr (ns.getD 21 0) (k := 2) (by decide)
 have m2 : X4 (.int (ns.getD 21 0)) (.int 2) = some (.sh (.int (i2 : Int))) := m2
 have x0 := Z8 K (ns.getD 21 0) 4 (by decide)
 have x0n := Cb (ns.getD 21 0) 4
 generalize mix (ns.getD 21 0) 4 = cc at x0 x0n
 obtain ⟨n, chs, ws, hm, hw, p1, p2⟩ := two.pick i2 b2
 have rf := Kk K kf hm hw (c := cc) x0n
 obtain ⟨l, hs, hll⟩ : ∃ l : List Int, YB (.list (iL ns)) (some 17) (some 21) = some (.ow true (.list (iL l))) ∧ l.length ≤ 63 := by
  refine ⟨(ns.drop (clipAt (iL ns).length 17)).take (clipAt (iL ns).length 21 - clipAt (iL ns).length 17), ?_, ?_⟩
  ·rw [UR (by rw [QI]; omega)]
   refine congrArg (fun l => some (T.ow true (.list l))) ?_
   show ((iL ns).drop (clipAt (iL ns).length 17)).take (clipAt (iL ns).length 21 - clipAt (iL ns).length 17) = _
   unfold iL; rw [List.map_take, List.map_drop]
  ·rw [List.length_take, List.length_drop]; omega
 have ha : Xg (.list [.int 0]) (.list (iL l)) = some (.ow true (.list (iL (0 :: l)))) := Up (by rw [QI]; simp; omega)
 have hen : Uv (iL (0 :: l)) = enI 0 (0 :: l) := rfl
 obtain ⟨Hd, v4, v5, v6, v7, v8, v9, gH, lH, q⟩ := Ee K (ns := ns) two (0 :: l) 0 [] none none none none none none (fun x hx => by cases hx) (by rw [List.length_cons]; simp; omega)
 rw [← hen] at q
 have hL1 : Hd.length ≤ 1000000 := by omega
 have hL2 : (Hd ++ [Y9 chs0 ws0]).length ≤ 1000000 := by rw [List.length_append, List.length_singleton]; omega
 have hc := DG (H := Hd ++ [Y9 chs0 ws0] ++ [Y9 chs1 ws1]) (U5 (U5 gH (Km _ _)) (Km _ _)) (by rw [List.length_append, List.length_append, List.length_singleton, List.length_singleton]; omega)
 have hi : Zt (.list (Hd ++ [Y9 chs0 ws0] ++ [Y9 chs1 ws1])) = some (Hd ++ [Y9 chs0 ws0] ++ [Y9 chs1 ws1]) := rfl
 have he : eqI (.list []) (.list []) = some (.sh (.bool true)) := rfl
 clear hen gH lH hm0 hm1 hm two
 generalize mth (3 + a0) chs0 ws0 = M0 at *
 generalize mth (3 + a1) chs1 ws1 = M1 at *
 generalize mth n chs ws = M2 at *
 generalize Y9 chs0 ws0 = K0 at *
 generalize Y9 chs1 ws1 = K1 at *
 unfold CW Fk
 refine' Xj [some (.sh (.list (iL ns))), none, none, none, none, none, none, none, none, none] rfl rfl ?_ XD
 repeat' (first|(with_reducible first|assumption|exact Q3|exact Z6|exact F9|exact GN|exact Y5|exact UZ|exact YF|exact Y2|exact QG|exact Qu|apply Qo|exact Wq|apply Uj|apply Yg|exact X5|apply X6|exact Xl|exact Q0|exact Q5|exact QX|exact QD|exact QQ|apply Of|apply Qn|apply QC|apply QJ|apply VK|apply Xi|apply Zq|apply Xs|apply Xp|apply Qs|apply Qw|apply QM|apply Qz|apply Q2|apply XU|apply Kg|apply UJ|apply XB|apply FJ|apply Jx|apply Qt|apply Q7|apply Q6|apply Xf|apply Zn|apply XY|apply Oq|apply Ho|apply Hs|apply Hr|apply Hu|apply Hv|apply Hw|apply Hx|apply Hy|apply HA|apply HB|apply HP|apply HW|apply HZ|apply H1|exact HC|apply HQ Q3|apply HQ Z6|apply HR|exact HS|apply HV|exact ix0|exact ix1|exact il0|exact il1)|exact QR rfl|exact (rfl : Qj _ = true)|(show List.all _ _ = true; rfl)|apply Ye rfl|exact (rfl : (_ : Option _) = some _)|decide)
end Mine
end

section
set_option Elab.async false
set_option maxRecDepth 100000
namespace Mine
open PySem PySem.W PyProof.Rows
theorem KF_ok (P : Params) : KF03 (hd.heap_1 P) where
 bells := ⟨by kernel_rfl, by kernel_rfl, by kernel_rfl, by kernel_rfl, by kernel_rfl, by kernel_rfl, by kernel_rfl, by kernel_rfl, by kernel_rfl⟩
 row := ⟨by kernel_rfl, by kernel_rfl, by kernel_rfl, by kernel_rfl, by kernel_rfl, by kernel_rfl, by kernel_rfl, by kernel_rfl, by kernel_rfl⟩
 change := ⟨by kernel_rfl, by kernel_rfl, by kernel_rfl, by kernel_rfl, by kernel_rfl, by kernel_rfl, by kernel_rfl, by kernel_rfl, by kernel_rfl⟩
 method := ⟨by kernel_rfl, by kernel_rfl, by kernel_rfl, by kernel_rfl, by kernel_rfl, by kernel_rfl, by kernel_rfl, by kernel_rfl, by kernel_rfl⟩
 call := ⟨by kernel_rfl, by kernel_rfl, by kernel_rfl, by kernel_rfl, by kernel_rfl, by kernel_rfl, by kernel_rfl, by kernel_rfl, by kernel_rfl⟩
end Mine
theorem PySem.Challenge.cw_uf010040_03_holds : PySem.Challenge.rw_uf010040_03.Holds :=
 Mine.law03_enter fun P ns hl => Mine.law03_plain _ (Mine.KF_ok P) ns hl
end
