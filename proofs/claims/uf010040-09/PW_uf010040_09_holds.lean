import PyProof.Rows.All
import Wide.All
import OpenK.AllK
import Wide.FinOn
import PyProof.StationsW
import PyProof.Cells
import PyProof.Walks
import PyProof.WalksMore
import PyProof.RangeIter
import PyProof.Rows.Frame
import PyProof.ListIndex
import PyProof.Rules2
import PyProof.Rules3
import PyProof.PureInt
import PyProof.IsRules
import PyProof.EqLayable
import PyProof.Rows.RuleB_mul
import PyProof.Rows.RuleB_mod
import PyProof.Rows.RuleB_floordiv
import PyProof.Rows.RuleB_small
import PyProof.Rows.EqDataRows
import PyProof.NoPylong
import PyProof.RulesDelMore
import PyProof.ForAny
import PyProof.RulesAs
import PyProof.NsDelKeeps
import PyProof.SliceMore
import PyProof.Rows.TupMore
import PyProof.Rows.TupSub
import PyProof.Rows.StrTemp
import PyProof.Rows.TupAdd
import PyProof.ListIndexNeg
import PyProof.ListMulAny
import PyProof.Rows.ListMul
import PyProof.ListRange
import PyProof.TupleOfSeq
import PyProof.ListCopy
import PyProof.RangeFor
import PyProof.ConsumeWalk
import PyProof.CallStr
import PyProof.Rows.SortWalk
import PyProof.Rows.Lst
import PyProof.Rows.Range3
import PyProof.Rows.ListMade
import PyProof.ListOps
import PyProof.CallRoads
import PyProof.Rows.TupAssign
import PyProof.EnumMake
import PyProof.Draws
import PyProof.Rows.TupIter
import PyProof.CompFree
import PyProof.CompUse
import KE.KRevSl
import PyProof.P3In
import PyProof.SliceStr2
import PyProof.StrOps
import PyProof.Rows.StrWeight2
import PyProof.Rows.StrIndexOr
import PyProof.StrLoop
import PyProof.StrWalks
import PyProof.Rows.StrMadeLen
import PyProof.Rows.SortStr
import PyProof.CollectStr
import PyProof.ListStr
import PyProof.DictRoadsH
import PyProof.MeetsDict
import PyProof.DictKinds
import PyProof.FactsAll.dict_0
import PyProof.FactsAll.dict_3
import PyProof.InstStore
import KE.KRevIter
import PyProof.Conv_int_bool
import PyProof.EqAt
import PyProof.FactsAll.list_3
import PyProof.WalkInts
import PyProof.SeqI3
import PyProof.Rows.SeqJoint
import PyProof.ZipIter
import PyProof.MeetsStr2
import PyProof.StrBlockG
import KE.KIntText
import PyProof.Rows.SortRuns
import KE.KSortTup
import KE.KDictSum
import Open.Head
import PySem.Challenge.RW_uf010040_09
set_option Elab.async false
set_option maxRecDepth 100000
set_option maxHeartbeats 80000000
set_option tactic.hygienic false
set_option compiler.extract_closed false
set_option genSizeOfSpec false
set_option bootstrap.genMatcherCode false
section
open PySem PySem.W PyProof.Rows
namespace Mine
theorem aK (h : True := by kernel_rfl) : True := trivial
theorem aR (h : True := by rfl) : True := trivial
theorem aD (h : True := by decide) : True := trivial
theorem aJ (h : True := by intro _ _; rfl) : True := trivial
theorem aI (h : True := by intro _; rfl) : True := trivial
noncomputable def vw : Program := view PySem.Challenge.pw_uf010040_09 [0, 2, 3, 4, 5, 6, 8, 9, 10, 11, 12, 13, 14, 15, 16, 17, 19, 21, 22, 24, 25, 26, 28, 29, 30, 31, 32, 33, 34, 35, 36, 37]
local macro_rules | `(tactic| o_head $H) => `(tactic| (refine holds_open (q := vw) (loose := []) (Xt := fun s => xlAt vw [] s && recOk [] s) (XP := XL vw []) (Yf := Hook.obs $H) (Ya := Hook.val $H) (YP := Hook.says $H) (N := 8000) ?hl (Hook.of $H) (Hook.keeps $H) (fun s e => xl_of s (Bool.and_eq_true_iff.mp e).1) XL.keeps (by rfl) (by rfl) (by rfl) (fun s e => recFacts_of (Bool.and_eq_true_iff.mp e).2) (by rfl) (by first | assumption | decide +kernel) (by decide +kernel) ⟨rfl, rfl, rfl, rfl, rfl, by decide +kernel⟩ ?hw ?hc; (case hl => (intro w; unfold openEnds topFrom; rw [PySem.W.Fast.te14082659384304107361, PySem.W.Fast.te14364793385576792824, PySem.W.Fast.te4187177175401517315]; kernel_rfl))))
local macro_rules | `(tactic| o_law) => `(tactic| refine holds_law (by decide +kernel) fun said => ?_)
open_top hd for PySem.Challenge.rw_uf010040_09
end Mine
end

section
namespace Mine
open PySem PySem.W
theorem omB {a b k : Nat} (h : a ≤ b) : a ≤ k + b := Nat.le_trans h (Nat.le_add_left _ _)
theorem omP {a b c k : Nat} (h : a + b ≤ c) : a ≤ k + c := Nat.le_trans (Nat.le_trans (Nat.le_add_right _ _) h) (Nat.le_add_left _ _)
theorem omL {a b k : Nat} (h : a < b) : a ≤ k + b := Nat.le_trans (Nat.le_of_lt h) (Nat.le_add_left _ _)
theorem omN {a b : Nat} (h : a ≤ b) : ¬ (b : Int) < (a : Int) := Int.not_lt.mpr (Int.ofNat_le.mpr h)
theorem omI {i n : Nat} (h : i < n) (h2 : n ≤ 9223372036854775808) : (i : Int) < 2 ^ 63 := Int.ofNat_lt.mpr (Nat.lt_of_lt_of_le h h2)
theorem omS {a b c k : Nat} (h : a + (b + 1) ≤ c) : a + 1 + b ≤ k + c := by rw [Nat.add_right_comm]; exact omB h
section
variable {prog : Program} {w : World} {A : Around} {E : Value → Shared → Prop} {h : Heap} {g : Array GenState} {d : Drawn} {t : Nat} {os : OsState} {a C : Addr} {o : Obj} {K : Frag}
theorem E3 {M : Model} {nameV : Value} {Q : Unit → Shared → Prop} (X : K.In h) (hx : h.get? a = some o) (hc : o.cls = .ref C) (hm : mroIn K C (.type "BaseException") = some true)
  (hq : Q () ⟨h, g, d, t, os⟩) : wpAny M A (checkBuiltinCall "BaseException.__getattribute__" ⟨[.ref a, nameV], []⟩) Q E ⟨h, g, d, t, os⟩ := by
 have hk : builtinKind "BaseException.__getattribute__" = some .slot := by decide +kernel
 have hsplit : splitId "BaseException.__getattribute__" = some ("BaseException", "__getattribute__") := by decide +kernel
 have ha := F.args_bexc_ga (.ref a) nameV
 have L1 := looks_mroIn (M := M) X hm
 simp only [checkBuiltinCall, hk, hsplit]
 refine wpAny_bind ?_
 unfold isInstance
 repeat (first | (with_reducible refine wpAny_loadPart_at hx ?_; rw [hc]) | (with_reducible refine L1.at ?_) | wp_step)
 exact hq
theorem HS {R : Result → Shared → Prop} {tp : Value} (X : K.In h) (hx : h.get? a = some o) (hc : o.cls = .ref C) (hm : mroIn K C (.type "object") = some true) (hn : notCls o = true) (hd : o.dict = none)
  (hq : R (.ok (.ret (.ref C))) ⟨h, g, d, t, os⟩) : codeAny (model prog w) A (.call (.builtin "getset_descriptor.__get__") ⟨[.builtin "object.__class__", .ref a, tp], []⟩) R ⟨h, g, d, t, os⟩ :=
 class_get (ox := o) (od := none) X ⟨hx, hc, hn, by rw [hd]; trivial⟩ hm hq
theorem FO {tk : Tok} {Q : Fin → Shared → Prop} (X : K.In h) (hx : h.get? a = some o) (hc : o.cls = .ref C) (hm : mroIn K C (.type "object") = some true) (hn : notCls o = true) (hd : o.dict = none)
  (hf : findObj K C none "__class__" = some (.bind (.builtin "getset_descriptor.__get__") (.builtin "object.__class__"))) (hq : Q (.done (.ret (.ref C))) ⟨h, g, d, t, os⟩) :
  wpAny (model prog w) A (Builtin.«object.__getattribute__» ⟨[.ref a, .str "__class__" tk], []⟩) Q E ⟨h, g, d, t, os⟩ := by
 have I : InstAt h a o C none := ⟨hx, hc, hn, by rw [hd]; trivial⟩
 have L0 := I.type (M := model prog w)
 have L1 := looks_find (M := model prog w) X I hf
 unfold Builtin.«object.__getattribute__»
 refine wpAny_bind (wpAny_pure ?_)
 refine wpAny_bind (m := Builtin.ObjectAttr.attrName _) (wpAny_pure ?_)
 refine wpAny_bind (L0.at (wpAny_bind (L1.at ?_)))
 show wpAny _ _ (holding [Value.builtin "object.__class__"] (call (.builtin "getset_descriptor.__get__") [.builtin "object.__class__", .ref a, .ref C]) >>= ret) _ _ _
 exact wpAny_bind (wpAny_holding (wpAny_call (HS X hx hc hm hn hd (wpAny_pure hq))))
theorem Ij {tk : Tok} {fill expr : Bool} {Q : Value → Shared → Prop} (X : K.In h) (hx : h.get? a = some o) (hc : o.cls = .ref C) (hm : mroIn K C (.type "object") = some true) (hmb : mroIn K C (.type "BaseException") = some true) (hn : notCls o = true) (hd : o.dict = none)
  (hga : findIn K (.ref C) "__getattribute__" = some (some (.builtin "BaseException.__getattribute__"))) (hgt : findIn K (.ref C) "__getattr__" = some none)
  (hf : findObj K C none "__class__" = some (.bind (.builtin "getset_descriptor.__get__") (.builtin "object.__class__"))) (hq : Q (.ref C) ⟨h, g, d, t, os⟩) :
  wpAny (model prog w) A (getAttrBy (.ref a) (.str "__class__" tk) fill expr) Q E ⟨h, g, d, t, os⟩ := by
 have I : InstAt h a o C none := ⟨hx, hc, hn, by rw [hd]; trivial⟩
 have L0 := I.type (M := model prog w)
 have L1 := looks_findIn (M := model prog w) X hga
 have L2 := looks_findIn (M := model prog w) X hgt
 have f3 := F.excAttr_ValueError.ga.bind (.ref a)
 have hx0 : (expr && onTheHeap (Value.builtin "BaseException.__getattribute__")) = false := by cases expr <;> rfl
 have hx2 : (Value.builtin "BaseException.__getattribute__" == Value.builtin "object.__getattribute__") = false := by decide +kernel
 have hx1 : (onTheHeap (Value.ref C) && Value.builtin "BaseException.__getattribute__" == Value.builtin "object.__getattribute__") = false := by rw [hx2]; rfl
 repeat (any_goals (first | assumption | (with_reducible refine L0.at ?_) | (with_reducible refine L1.at ?_) | (with_reducible refine L2.at ?_) | wp_step))
 refine codeAny_call_builtin F.excAttr_ValueError.ga.plain F.entry_bexc_ga (E3 X hx hc hmb (FO X hx hc hm hn hd hf ?_))
 show wpAny _ _ (handedOut (.ref C)) _ _ _
 exact handed_on rfl hq
set_option tactic.hygienic true in
theorem FG (hm : mroIn K C (.type "object") = some true) (hmb : mroIn K C (.type "BaseException") = some true) (hcl : (clsIn K C).isSome = true)
  (hga : findIn K (.ref C) "__getattribute__" = some (some (.builtin "BaseException.__getattribute__"))) (hgt : findIn K (.ref C) "__getattr__" = some none)
  (hf : findObj K C none "__class__" = some (.bind (.builtin "getset_descriptor.__get__") (.builtin "object.__class__"))) :
  KitX K (.ref a) (.ref C) (fun h => ∃ o, h.get? a = some o ∧ o.cls = .ref C ∧ notCls o = true ∧ o.dict = none) where
 ty := fun _ _ _ I => by obtain ⟨o, h1, h2, h3, h4⟩ := I; exact InstAt.type (od := none) ⟨h1, h2, h3, by rw [h4]; trivial⟩
 it := fun M h X _ => by
  unfold clsIn at hcl
  split at hcl
  ·rename_i ho
   intro A' Q' E' s' k q
   unfold isType loadHead
   exact wpAny_bind (wpAny_loadPart (k _ _ (X _ _ ho)) (wpAny_pure q))
  ·cases hcl
 ne := fun h tp dd its n sl X e => by
  unfold clsIn at hcl
  split at hcl
  ·rename_i ho
   refine Bool.eq_false_iff.mpr fun q => ?_
   cases beq_iff_eq.mp q
   rw [X _ _ ho] at e; cases e
  ·cases hcl
 ca := fun {prog w A E Q s} X I k => by
  obtain ⟨o, h1, h2, h3, h4⟩ := I
  obtain ⟨h, g, d, t, os⟩ := s
  unfold getAttr? getAttrBy?
  refine wpAny_bind (wpAny_mkText (wpAny_bind (wpAny_attempt ?_)))
  exact Ij X h1 h2 hm hmb h3 h4 hga hgt hf (wpAny_pure k)
noncomputable def OI (K : Frag) (C : Addr) : Bool := mroIn K C (.type "object") == some true && mroIn K C (.type "BaseException") == some true && (clsIn K C).isSome && findIn K (.ref C) "__getattribute__" == some (some (.builtin "BaseException.__getattribute__")) &&
 findIn K (.ref C) "__getattr__" == some none && (match findObj K C none "__class__" with | some (.bind g a) => g == .builtin "getset_descriptor.__get__" && a == .builtin "object.__class__" | _ => false)
set_option tactic.hygienic true in
theorem BX (e : OI K C = true) : KitX K (.ref a) (.ref C) (fun h => ∃ o, h.get? a = some o ∧ o.cls = .ref C ∧ notCls o = true ∧ o.dict = none) := by
 unfold OI at e
 simp only [Bool.and_eq_true, beq_iff_eq] at e
 obtain ⟨⟨⟨⟨⟨h1, h2⟩, h3⟩, h4⟩, h5⟩, h6⟩ := e
 refine FG h1 h2 h3 h4 h5 ?_
 split at h6
 ·rename_i gg aa hf
  rw [Bool.and_eq_true, beq_iff_eq, beq_iff_eq] at h6
  rw [hf, h6.1, h6.2]
 ·cases h6
end
end Mine
end

section
namespace Mine
open PySem
theorem nn {α : Type} {a : α} {P : Prop} (h : (Option.none : Option α) = Option.some a) : P := by cases h
theorem ifs {c : Prop} [Decidable c] {α : Type} {a : Option α} {t : α} (h : (if c then a else none) = some t) : c ∧ a = some t := by
 by_cases hc : c
 ·rw [if_pos hc] at h; exact ⟨hc, h⟩
 ·rw [if_neg hc] at h; exact nn h
inductive D where
 | none
 | bool (b : Bool)
 | int (i : Int)
 | str (x : Str)
 | tup (ds : List D)
 | list (ds : List D)
 | range (lo hi st : Int)
 | exc (C : Addr)
 | glob (v : Value)
 | dict (ks : List (List Int)) (ds : List D)
 | obj (C : Addr) (ns : List Str) (ds : List D)
noncomputable def asI : D → Option Int
 | .int i => some i
 | _ => none
theorem Je {x : D} {i : Int} (e : asI x = some i) : x = .int i := by
 cases x <;> first | (cases e; rfl) | exact nn e
inductive T where
 | sh (d : D)
 | ow (m : Bool) (d : D)
noncomputable def T.val : T → D
 | .sh d => d
 | .ow _ d => d
noncomputable def T.get : T → Option D
 | .sh d => some d
 | .ow _ (.list ds) => some (.list ds)
 | .ow _ _ => none
noncomputable def IM (o : Obj) (_ : List D) : Prop := o.dict = Option.none ∧ o.slots = #[]
noncomputable def Yn (o : Obj) : Prop := ∀ es n, o.data ≠ .dict es n
theorem Yn.seq {o : Obj} {vs : Array Value} {n : Nat} (h : o.data = .seq vs n) : Yn o := fun es m q => by rw [h] at q; cases q
theorem Yn.fields {o : Obj} {vs : Array Value} (h : o.data = .fields vs) : Yn o := fun es m q => by rw [h] at q; cases q
inductive Kept (h' : Heap) (b : Addr) (o : Obj) : Prop
 | mk (sl : Array (Option Value)) (e : h'.get? b = some { o with slots := sl }) (k : Yn o → sl = o.slots) : Kept h' b o
noncomputable def Kp (h h' : Heap) : Prop := ∀ b o, h.get? b = some o → Kept h' b o
theorem Kp.refl (h : Heap) : Kp h h := fun _ o e => ⟨o.slots, e, fun _ => rfl⟩
theorem Kp.trans {h₁ h₂ h₃ : Heap} (x : Kp h₁ h₂) (y : Kp h₂ h₃) : Kp h₁ h₃ := fun b o e => by
 obtain ⟨sl, e₁, q₁⟩ := x b o e
 obtain ⟨sl', e₂, q₂⟩ := y b _ e₁
 exact ⟨sl', e₂, fun hc => (q₂ hc).trans (q₁ hc)⟩
theorem Kp.of_keeps {h h' : Heap} (k : ∀ b o, h.get? b = some o → h'.get? b = some o) : Kp h h' := fun b o e => ⟨o.slots, k b o e, fun _ => rfl⟩
theorem Kp.exact {h h' : Heap} (x : Kp h h') {b : Addr} {o : Obj} (e : h.get? b = some o) (hc : Yn o) : h'.get? b = some o := by
 obtain ⟨sl, e₁, q⟩ := x b o e
 rw [q hc] at e₁; exact e₁
theorem Kp.dom {h h' : Heap} (x : Kp h h') {b : Addr} {o : Obj} (e : h.get? b = some o) : ∃ o', h'.get? b = some o' := let ⟨_, e₁, _⟩ := x b o e; ⟨_, e₁⟩
theorem Kp.ns {h h' : Heap} (x : Kp h h') {a : Addr} {m : Str → Option Value} (hn : h.Ns a m) : h'.Ns a m := by
 obtain ⟨o, es, ep, ho, hd, r⟩ := hn
 obtain ⟨sl, e₁, _⟩ := x a o ho
 exact ⟨_, es, ep, e₁, hd, r⟩
theorem Kp.cell {h h' : Heap} (x : Kp h h') {c : Addr} {v : Option Value} (hn : h.IsCell c v) : h'.IsCell c v := by
 obtain ⟨o, ho, hd⟩ := hn
 obtain ⟨sl, e₁, _⟩ := x c o ho
 exact ⟨_, e₁, hd⟩
theorem Kp.none {h h' : Heap} (x : Kp h h') {b : Addr} (e : h'.get? b = none) : h.get? b = none := by
 cases q : h.get? b with
 | none => rfl
 | some o => obtain ⟨_, e₁, _⟩ := x b o q; rw [e] at e₁; cases e₁
noncomputable def Imm (o : Obj) : Prop := (o.cls = .type "tuple" ∧ ∃ vs n, o.data = .seq vs n) ∨ ∃ vs, o.data = .fields vs
mutual
inductive RV (S : Addr → Prop) (h : Heap) : Value → D → Prop
 | none : RV S h .none .none
 | bool (b : Bool) : RV S h (.bool b) (.bool b)
 | int (i : Int) (t : Tok) : RV S h (.int i t) (.int i)
 | str (x : Str) (t : Tok) : RV S h (.str x t) (.str x)
 | tup {a : Addr} {o : Obj} {vs : Array Value} {n : Nat} {ds : List D} : h.get? a = some o → o.cls = .type "tuple" → o.data = .seq vs n → RVs S h vs.toList ds → RV S h (.ref a) (.tup ds)
 | list {a : Addr} {o : Obj} {vs : Array Value} {n : Nat} {ds : List D} : S a → h.get? a = some o → (o.cls = .type "list" ∧ IM o ds) → o.data = .seq vs n → RVs S h vs.toList ds → RV S h (.ref a) (.list ds)
 | range {a : Addr} {lo hi st : Int} {t u v : Tok} : IsRange h a lo hi st t u v → RV S h (.ref a) (.range lo hi st)
 | exc {a : Addr} {o : Obj} {vs : Array Value} {C : Addr} : h.get? a = some o → o.cls = .ref C → o.dict = none → o.data = .fields vs → vs[2]? = some .none → RV S h (.ref a) (.exc C)
 | glob (v : Value) : (∀ a, v = .ref a → ∃ o, h.get? a = some o) → RV S h v (.glob v)
 | obj {a dx C : Addr} {m : Str → Option Value} {ns : List Str} {vs : List Value} {ds : List D} : S a → S dx → h.get? a = some (W.instObj C dx) → h.Ns dx m → (ns.map m = vs.map some ∧ ∀ y, y ∉ ns → m y = Option.none) → RVs S h vs ds → RV S h (.ref a) (.obj C ns ds)
inductive RVs (S : Addr → Prop) (h : Heap) : List Value → List D → Prop
 | nil : RVs S h [] []
 | cons {v : Value} {d : D} {vs : List Value} {ds : List D} : RV S h v d → RVs S h vs ds → RVs S h (v :: vs) (d :: ds)
end
structure Ext (S : Addr → Prop) (h : Heap) (S' : Addr → Prop) (h' : Heap) : Prop where
 sub : ∀ b, S b → S' b
 keep : ∀ b o, h.get? b = some o → (S b ∨ Imm o) → Kept h' b o
 dom : ∀ b o, h.get? b = some o → ∃ o', h'.get? b = some o'
theorem Ext.exact {S : Addr → Prop} {h : Heap} {S' : Addr → Prop} {h' : Heap} (x : Ext S h S' h') {b : Addr} {o : Obj} (e : h.get? b = some o) (q : S b ∨ Imm o) (hn : Yn o) : h'.get? b = some o := by
 obtain ⟨sl, e₁, k⟩ := x.keep b o e q
 rw [k hn] at e₁; exact e₁
theorem Ext.ns {S : Addr → Prop} {h : Heap} {S' : Addr → Prop} {h' : Heap} (x : Ext S h S' h') {a : Addr} {m : Str → Option Value} (q : S a) (hn : h.Ns a m) : h'.Ns a m := by
 obtain ⟨o, es, ep, ho, hd, r⟩ := hn
 obtain ⟨sl, e₁, _⟩ := x.keep a o ho (.inl q)
 exact ⟨_, es, ep, e₁, hd, r⟩
theorem Ext.refl (S : Addr → Prop) (h : Heap) : Ext S h S h := ⟨fun _ x => x, fun _ o e _ => ⟨o.slots, e, fun _ => rfl⟩, fun _ o e => ⟨o, e⟩⟩
theorem Ext.trans {S₁ S₂ S₃ : Addr → Prop} {h₁ h₂ h₃ : Heap} (x : Ext S₁ h₁ S₂ h₂) (y : Ext S₂ h₂ S₃ h₃) : Ext S₁ h₁ S₃ h₃ :=
 ⟨fun b q => y.sub b (x.sub b q), fun b o e q => by
  obtain ⟨sl, e₁, k₁⟩ := x.keep b o e q
  obtain ⟨sl', e₂, k₂⟩ := y.keep b _ e₁ (q.imp (x.sub b) id)
  exact ⟨sl', e₂, fun hn => (k₂ hn).trans (k₁ hn)⟩, fun b o e => let ⟨o', e'⟩ := x.dom b o e; y.dom b o' e'⟩
theorem Ext.none {S S' : Addr → Prop} {h h' : Heap} (x : Ext S h S' h') {b : Addr} (e : h'.get? b = none) : h.get? b = none := by
 cases q : h.get? b with
 | none => rfl
 | some o => obtain ⟨_, e₁⟩ := x.dom b o q; rw [e] at e₁; cases e₁
structure Carry (S : Addr → Prop) (h : Heap) (S' : Addr → Prop) (h' : Heap) : Prop where
 tup : ∀ {a : Addr} {o : Obj} {vs : Array Value} {n : Nat}, h.get? a = some o → o.cls = .type "tuple" → o.data = .seq vs n → h'.get? a = some o
 list : ∀ {a : Addr} {o : Obj} {vs : Array Value} {n : Nat}, S a → h.get? a = some o → o.cls = .type "list" → o.data = .seq vs n → S' a ∧ h'.get? a = some o
 range : ∀ {a : Addr} {lo hi st : Int} {t u v : Tok}, IsRange h a lo hi st t u v → IsRange h' a lo hi st t u v
 exc : ∀ {a : Addr} {o : Obj} {vs : Array Value} {C : Addr}, h.get? a = some o → o.cls = .ref C → o.dict = none → o.data = .fields vs → vs[2]? = some .none → RV S' h' (.ref a) (.exc C)
 dom : ∀ a o, h.get? a = some o → ∃ o', h'.get? a = some o'
 obj : ∀ {a dx C : Addr} {m : Str → Option Value}, S a → S dx → h.get? a = some (W.instObj C dx) → h.Ns dx m → S' a ∧ S' dx ∧ h'.get? a = some (W.instObj C dx) ∧ h'.Ns dx m
section
variable {S S' : Addr → Prop} {h h' : Heap}
theorem RV.map (x : Carry S h S' h') {v : Value} {d : D} (q : RV S h v d) : RV S' h' v d :=
 RV.rec (motive_1 := fun v d _ => RV S' h' v d) (motive_2 := fun vs ds _ => RVs S' h' vs ds) .none .bool .int .str (fun e hc hd _ r => .tup (x.tup e hc hd) hc hd r) (fun hs e hc hd _ r => .list (x.list hs e hc.1 hd).1 (x.list hs e hc.1 hd).2 hc hd r) (fun e => .range (x.range e)) (fun e hc hn hd r => x.exc e hc hn hd r) (fun v hv => .glob v fun a e => let ⟨o, e'⟩ := hv a e; x.dom a o e') (fun s1 s2 e n hm _ r => let ⟨t1, t2, e', n'⟩ := x.obj s1 s2 e n; .obj t1 t2 e' n' hm r) .nil (fun _ _ a b => .cons a b) q
theorem RVs.map (x : Carry S h S' h') {vs : List Value} {ds : List D} (q : RVs S h vs ds) : RVs S' h' vs ds :=
 RVs.rec (motive_1 := fun v d _ => RV S' h' v d) (motive_2 := fun vs ds _ => RVs S' h' vs ds) .none .bool .int .str (fun e hc hd _ r => .tup (x.tup e hc hd) hc hd r) (fun hs e hc hd _ r => .list (x.list hs e hc.1 hd).1 (x.list hs e hc.1 hd).2 hc hd r) (fun e => .range (x.range e)) (fun e hc hn hd r => x.exc e hc hn hd r) (fun v hv => .glob v fun a e => let ⟨o, e'⟩ := hv a e; x.dom a o e') (fun s1 s2 e n hm _ r => let ⟨t1, t2, e', n'⟩ := x.obj s1 s2 e n; .obj t1 t2 e' n' hm r) .nil (fun _ _ a b => .cons a b) q
theorem Ext.carry (x : Ext S h S' h') : Carry S h S' h' where
 tup := fun e hc hd => x.exact e (.inr (.inl ⟨hc, _, _, hd⟩)) (.seq hd)
 list := fun hs e hc hd => ⟨x.sub _ hs, x.exact e (.inl hs) (.seq hd)⟩
 range := fun e => x.exact e (.inr (.inr ⟨_, rfl⟩)) (.fields rfl)
 exc := fun e hc hn hd r => .exc (x.exact e (.inr (.inr ⟨_, hd⟩)) (.fields hd)) hc hn hd r
 dom := x.dom
 obj := fun s1 s2 e n => ⟨x.sub _ s1, x.sub _ s2, x.exact e (.inl s1) (fun es m q => by cases q), x.ns s2 n⟩
theorem RV.ext (x : Ext S h S' h') {v : Value} {d : D} (q : RV S h v d) : RV S' h' v d := q.map x.carry
theorem RVs.ext (x : Ext S h S' h') {vs : List Value} {ds : List D} (q : RVs S h vs ds) : RVs S' h' vs ds := q.map x.carry
end
theorem Ext.of_keeps {S : Addr → Prop} {h h' : Heap} (k : ∀ b o, h.get? b = some o → h'.get? b = some o) : Ext S h S h' := ⟨fun _ q => q, fun b o e _ => ⟨o.slots, k b o e, fun _ => rfl⟩, fun b o e => ⟨o, k b o e⟩⟩
theorem Ext.of_kp {S : Addr → Prop} {h h' : Heap} (k : Kp h h') : Ext S h S h' := ⟨fun _ q => q, fun b o e _ => k b o e, fun _ _ e => k.dom e⟩
theorem Ext.grow {S S' : Addr → Prop} {h : Heap} (q : ∀ b, S b → S' b) : Ext S h S' h := ⟨q, fun _ o e _ => ⟨o.slots, e, fun _ => rfl⟩, fun _ o e => ⟨o, e⟩⟩
theorem RV.live {S : Addr → Prop} {h : Heap} {v : Value} {d : D} (q : RV S h v d) : ∀ a, v = .ref a → ∃ o, h.get? a = some o := by
 intro a e
 cases q with
 | tup q _ _ _ => cases e; exact ⟨_, q⟩
 | list _ q _ _ _ => cases e; exact ⟨_, q⟩
 | range q => cases e; exact ⟨_, q⟩
 | exc q _ _ _ _ => cases e; exact ⟨_, q⟩
 | glob v q => exact q a e
 | obj _ _ q _ _ _ => cases e; exact ⟨_, q⟩
 | _ => cases e
theorem RVs.length {S : Addr → Prop} {h : Heap} {vs : List Value} : ∀ {ds : List D}, RVs S h vs ds → vs.length = ds.length := by
 induction vs with
 | nil => intro ds q; cases q; rfl
 | cons v vs ih => intro ds q; cases q with | cons _ r => exact congrArg (· + 1) (ih r)
theorem RVs.append {S : Addr → Prop} {h : Heap} {ws : List Value} {es : List D} (k : RVs S h ws es) {vs : List Value} : ∀ {ds : List D}, RVs S h vs ds → RVs S h (vs ++ ws) (ds ++ es) := by
 induction vs with
 | nil => intro ds q; cases q; exact k
 | cons v vs ih => intro ds q; cases q with | cons q r => exact .cons q (ih r)
theorem RVs.get {S : Addr → Prop} {h : Heap} {vs : List Value} : ∀ {ds : List D}, RVs S h vs ds → ∀ {k : Nat} {d : D}, ds[k]? = some d → ∃ v, vs[k]? = some v ∧ RV S h v d := by
 induction vs with
 | nil => intro ds q k d e; cases q; cases e
 | cons v vs ih =>
  intro ds q k d e
  cases q with
  | cons q r =>
   cases k with
   | zero => cases e; exact ⟨v, rfl, q⟩
   | succ k => exact ih r e
theorem RVs.drop {S : Addr → Prop} {h : Heap} {vs : List Value} : ∀ {ds : List D}, RVs S h vs ds → ∀ (k : Nat), RVs S h (vs.drop k) (ds.drop k) := by
 induction vs with
 | nil => intro ds q k; cases q; rw [List.drop_nil, List.drop_nil]; exact .nil
 | cons v vs ih =>
  intro ds q k
  cases q with
  | cons q r =>
   cases k with
   | zero => exact .cons q r
   | succ k => exact ih r k
theorem RVs.take {S : Addr → Prop} {h : Heap} {vs : List Value} : ∀ {ds : List D}, RVs S h vs ds → ∀ (k : Nat), RVs S h (vs.take k) (ds.take k) := by
 induction vs with
 | nil => intro ds q k; cases q; rw [List.take_nil, List.take_nil]; exact .nil
 | cons v vs ih =>
  intro ds q k
  cases q with
  | cons q r =>
   cases k with
   | zero => exact .nil
   | succ k => exact .cons q (ih r k)
theorem RVs.set {S : Addr → Prop} {h : Heap} {w : Value} {e : D} (k : RV S h w e) {vs : List Value} : ∀ {ds : List D}, RVs S h vs ds → ∀ (i : Nat), RVs S h (vs.set i w) (ds.set i e) := by
 induction vs with
 | nil => intro ds q i; cases q; exact .nil
 | cons v vs ih =>
  intro ds q i
  cases q with
  | cons q r =>
   cases i with
   | zero => exact .cons k r
   | succ i => exact .cons q (ih r i)
theorem RVs.mem {S : Addr → Prop} {h : Heap} {vs : List Value} : ∀ {ds : List D}, RVs S h vs ds → ∀ {v : Value}, v ∈ vs → ∃ d, d ∈ ds ∧ RV S h v d := by
 induction vs with
 | nil => intro ds q v m; cases m
 | cons w vs ih =>
  intro ds q v m
  cases q with
  | cons q r =>
   rcases List.mem_cons.mp m with e | m
   ·subst e; exact ⟨_, .head _, q⟩
   ·obtain ⟨d, hd, q⟩ := ih r m; exact ⟨d, .tail _ hd, q⟩
noncomputable def Var (env : Env) (h : Heap) (x : Str) (v : Value) : Prop :=
 (env.kindOf x = some .local ∧ ∃ m, h.Ns env.locals m ∧ m x = some v) ∨
 ((env.kindOf x = some .cell ∨ env.kindOf x = some .free) ∧ ∃ c, env.cells.lookup x = some c ∧ h.IsCell c (some v))
theorem Var.kp {env : Env} {h h' : Heap} (k : Kp h h') {x : Str} {v : Value} (q : Var env h x v) : Var env h' x v := by
 rcases q with ⟨a, m, b, c⟩ | ⟨a, c, b, d⟩
 ·exact .inl ⟨a, m, k.ns b, c⟩
 ·exact .inr ⟨a, c, b, k.cell d⟩
theorem IsCell.inj {h : Heap} {c : Addr} {v v' : Option Value} (a : h.IsCell c v) (b : h.IsCell c v') : v = v' := by
 obtain ⟨o, ho, hd⟩ := a
 obtain ⟨o', ho', hd'⟩ := b
 rw [ho] at ho'; cases ho'
 rw [hd] at hd'; cases hd'; rfl
theorem Var.inj {env : Env} {h : Heap} {x : Str} {v v' : Value} (a : Var env h x v) (b : Var env h x v') : v = v' := by
 rcases a with ⟨k, m, n, e⟩ | ⟨k, c, n, e⟩ <;> rcases b with ⟨k', m', n', e'⟩ | ⟨k', c', n', e'⟩
 ·have := n.agree n' x; rw [e, e'] at this; injection this
 ·rw [k] at k'; rcases k' with q | q <;> cases q
 ·rw [k'] at k; rcases k with q | q <;> cases q
 ·rw [n] at n'; cases n'; have := IsCell.inj e e'; injection this
noncomputable def XM (S : Addr → Prop) (h : Heap) (a : Addr) : D → Prop
 | .list ds => ∃ vs n, h.get? a = some { cls := .type "list", data := .seq vs n } ∧ RVs S h vs.toList ds
 | _ => False
theorem XM.ext {S S' : Addr → Prop} {h h' : Heap} {a : Addr} {d : D} (x : Ext S h S' h') (k : ∀ o, h.get? a = some o → h'.get? a = some o) (q : XM S h a d) : XM S' h' a d := by
 unfold XM at q ⊢
 split at q
 ·obtain ⟨vs, n, e, r⟩ := q; exact ⟨vs, n, k _ e, r.ext x⟩
 ·exact q
theorem XM.cls {S : Addr → Prop} {h : Heap} {a : Addr} {d : D} (q : XM S h a d) : ∃ o, h.get? a = some o ∧ o.cls = .type "list" ∧ (∃ vs n, o.data = .seq vs n) := by
 unfold XM at q
 split at q
 ·obtain ⟨vs, n, e, _⟩ := q; exact ⟨_, e, rfl, vs, n, rfl⟩
 ·exact q.elim
noncomputable def Yv (k : List Int) : D := .tup (k.map .int)
noncomputable def UQ (k : List Int) : Int := reduceHash (Builtin.Tuple.tupleHashOf (k.map hashInt))
noncomputable def Ih (x : List Int × Addr × Value) : DictEntry := ⟨UQ x.1, .ref x.2.1, x.2.2⟩
inductive DictAt (S : Addr → Prop) (h : Heap) (a : Addr) (ks : List (List Int)) (ds : List D) : Prop
 | mk (o : Obj) (es : Array DictEntry) (n : Nat) (xs : List (List Int × Addr × Value)) (e : h.get? a = some o) (hc : o.cls = .type "dict" ∧ o.dict = none) (hd : o.data = .dict es n) (he : es.toList = xs.map Ih) (hk : xs.map (·.1) = ks) (nd : ks.Nodup) (hr : ∀ x ∈ xs, RV S h (.ref x.2.1) (Yv x.1)) (rv : RVs S h (xs.map (·.2.2)) ds) (hm : (a == sysModules) = false) : DictAt S h a ks ds
theorem DictAt.map {S S' : Addr → Prop} {h h' : Heap} {a : Addr} {ks : List (List Int)} {ds : List D} (x : Carry S h S' h') (k : ∀ o, h.get? a = some o → ∃ sl, h'.get? a = some { o with slots := sl }) (q : DictAt S h a ks ds) : DictAt S' h' a ks ds := by
 obtain ⟨o, es, n, xs, e, hc, hd, he, hk, nd, hr, rv, hm⟩ := q
 obtain ⟨sl, e'⟩ := k o e
 exact ⟨_, es, n, xs, e', hc, hd, he, hk, nd, fun y hy => (hr y hy).map x, rv.map x, hm⟩
noncomputable def Uh (S : Addr → Prop) (h : Heap) (a : Addr) : D → Prop
 | .dict ks ds => DictAt S h a ks ds
 | d => XM S h a d
theorem XM.map {S S' : Addr → Prop} {h h' : Heap} {a : Addr} {d : D} (x : Carry S h S' h') (k : ∀ o, h.get? a = some o → Yn o → h'.get? a = some o) (q : XM S h a d) : XM S' h' a d := by
 unfold XM at q ⊢
 split at q
 ·obtain ⟨vs, n, e, r⟩ := q; exact ⟨vs, n, k _ e (.seq rfl), r.map x⟩
 ·exact q
theorem XM.v {S : Addr → Prop} {h : Heap} {a : Addr} {d : D} (q : XM S h a d) : Uh S h a d := by
 cases d <;> first | exact q | exact q.elim
theorem Uh.cases {S : Addr → Prop} {h : Heap} {a : Addr} {d : D} (q : Uh S h a d) : XM S h a d ∨ ∃ ks ds, d = .dict ks ds ∧ DictAt S h a ks ds := by
 cases d <;> first | exact .inl q | exact .inr ⟨_, _, rfl, q⟩
theorem Uh.map {S S' : Addr → Prop} {h h' : Heap} {a : Addr} {d : D} (x : Carry S h S' h') (k : ∀ o, h.get? a = some o → (∃ vs n, o.data = .seq vs n) ∨ (∃ es n, o.data = .dict es n) → Kept h' a o) (q : Uh S h a d) : Uh S' h' a d := by
 rcases q.cases with q | ⟨ks, ds, rfl, q⟩
 ·refine (q.map x fun o e hn => ?_).v
  obtain ⟨o', e', _, vs, n, hd⟩ := q.cls
  rw [e] at e'; cases e'
  obtain ⟨sl, e₁, hs⟩ := k o e (.inl ⟨vs, n, hd⟩)
  rw [hs hn] at e₁; exact e₁
 ·refine DictAt.map x (fun o e => ?_) q
  obtain ⟨o', es, n, xs, e', hc, hd, _⟩ := q
  rw [e] at e'; cases e'
  obtain ⟨sl, e₁, _⟩ := k o e (.inr ⟨es, n, hd⟩)
  exact ⟨sl, e₁⟩
theorem Uh.ext {S S' : Addr → Prop} {h h' : Heap} {a : Addr} {d : D} (x : Ext S h S' h') (k : ∀ o, h.get? a = some o → Kept h' a o) (q : Uh S h a d) : Uh S' h' a d := q.map x.carry fun o e _ => k o e
theorem Uh.live {S : Addr → Prop} {h : Heap} {a : Addr} {d : D} (q : Uh S h a d) : ∃ o, h.get? a = some o ∧ ((∃ vs n, o.data = .seq vs n) ∨ ∃ es n, o.data = .dict es n) := by
 rcases q.cases with q | ⟨ks, ds, rfl, q⟩
 ·obtain ⟨o, e, _, vs, n, hd⟩ := q.cls; exact ⟨o, e, .inl ⟨vs, n, hd⟩⟩
 ·obtain ⟨o, es, n, _, e, _, hd, _⟩ := q; exact ⟨o, e, .inr ⟨es, n, hd⟩⟩
inductive OwnVar (h₀ : Heap) (S : Addr → Prop) (h : Heap) (v : Value) (m : Bool) (d : D) : Prop
 | mk (a : Addr) (e : v = .ref a) (n : ¬ S a) (o : Uh S h a d) (w : m = true → h₀.get? a = none) : OwnVar h₀ S h v m d
noncomputable def Ew (h₀ : Heap) (S : Addr → Prop) (h : Heap) (v : Value) : T → Prop
 | .sh d => RV S h v d
 | .ow m d => OwnVar h₀ S h v m d
inductive FrameAt (B h : Heap) (env : Env) : Prop
 | mk (p : env.scope.kind ≠ .module) (L : Addr) (o : Obj) (f : env.frame = some L) (b : B.get? L = none) (e : h.get? L = some o) (es : Array DictEntry) (n : Nat) (d : o.data = .dict es n) : FrameAt B h env
noncomputable def FF (B h : Heap) (fs : List Env) : Prop := ∀ env ∈ fs, FrameAt B h env
theorem FF.kp {B h h' : Heap} {fs : List Env} (k : Kp h h') (x : FF B h fs) : FF B h' fs := fun env he => by
 obtain ⟨a, L, o, b, c, d, es, n, e⟩ := x env he
 obtain ⟨sl, e₁, _⟩ := k L o d
 exact ⟨a, L, _, b, c, e₁, es, n, e⟩
theorem FF.fun {B h : Heap} : ∀ {fs : List Env}, FF B h fs → h.FunFrames B fs
 | [], _ => trivial
 | env :: fs, x => by
  obtain ⟨a, L, o, b, c, d, es, n, f⟩ := x env (.head _)
  exact ⟨a, ⟨L, o, b, c, d, fun vs q => by rw [f] at q; cases q⟩, FF.fun fun e he => x e (.tail _ he)⟩
structure Gd where
 prog : Program
 w : World
 B : Heap
 mg : Str → Option Value
 mb : Str → Option Value
 K : W.Frag
 quiet : Bool := true
structure Gd.Ok (G : Gd) : Prop where
 g : G.B.Ns mainGlobals G.mg
 b : G.B.Ns builtinsNs G.mb
 nolimit : G.B.NoLimit
 K : G.K.In G.B
abbrev Gd.M (G : Gd) : Model := model G.prog G.w
structure Cx where
 A : Around
 env : Env
 fs : List Env
 h₀ : Heap
 P : Addr → Prop
noncomputable def Qf (sc : Scope) : List Str := (sc.names.filter fun x => x.2 == .local || x.2 == .cell || x.2 == .free).map (·.1)
abbrev AEnv := List (Option T)
noncomputable def X3 (x : Str) : Bool := x == "_law_e"
noncomputable def DOK (cx : Cx) (sc : Scope) (ρ : AEnv) (h : Heap) : Prop := ∀ (i : Nat) (x : Str) (m : Bool) (ks : List (List Int)) (ds : List D), (Qf sc)[i]? = some x → ρ[i]? = some (some (.ow m (.dict ks ds))) → ¬ Var cx.env h x (.ref cx.env.locals)
theorem DOK.back {cx : Cx} {sc : Scope} {ρ : AEnv} {h h' : Heap} (q : DOK cx sc ρ h) (k : ∀ x v, Var cx.env h' x v → Var cx.env h x v) : DOK cx sc ρ h' := fun i x m ks ds hx hi hv => q i x m ks ds hx hi (k _ _ hv)
theorem DOK.sub {cx : Cx} {sc : Scope} {ρ ρ' : AEnv} {h : Heap} (q : DOK cx sc ρ h) (k : ∀ (i : Nat) m ks ds, ρ'[i]? = some (some (.ow m (.dict ks ds))) → ∃ m' ks' ds', ρ[i]? = some (some (.ow m' (.dict ks' ds')))) : DOK cx sc ρ' h := fun i x m ks ds hx hi => let ⟨m', ks', ds', e⟩ := k i m ks ds hi; q i x m' ks' ds' hx e
theorem Vx {ρ : AEnv} {i j : Nat} {t u : T} (e : (ρ.set i (some t))[j]? = some (some u)) (h : u ≠ t) : ρ[j]? = some (some u) := by
 by_cases hij : i = j
 ·subst hij
  by_cases hl : i < ρ.length
  ·rw [List.getElem?_set_self hl] at e; cases e; exact absurd rfl h
  ·rw [List.getElem?_eq_none (by rw [List.length_set]; exact Nat.le_of_not_lt hl)] at e; cases e
 ·rw [List.getElem?_set_ne hij] at e; exact e
theorem DOK.set {cx : Cx} {sc : Scope} {ρ : AEnv} {h : Heap} {i : Nat} {t : T} (q : DOK cx sc ρ h) (ht : ∀ m ks ds, t ≠ .ow m (.dict ks ds)) : DOK cx sc (ρ.set i (some t)) h := q.sub fun j m ks ds e => ⟨m, ks, ds, Vx e fun q => ht m ks ds q.symm⟩
structure Rel (G : Gd) (cx : Cx) (sc : Scope) (ρ : AEnv) (S : Addr → Prop) (h : Heap) : Prop where
 base : G.B.StaysIn h
 keep : Kp cx.h₀ h
 ff : FF G.B h cx.fs
 ns : ∃ m, h.Ns cx.env.locals m
 cells : ∀ x c, cx.env.cells.lookup x = some c → ∃ v, h.IsCell c v
 sdom : ∀ b, S b → ∃ o, h.get? b = some o
 sok : ∀ b, S b → cx.P b ∨ cx.h₀.get? b = none
 sloc : ¬ S cx.env.locals
 scell : ∀ x c, cx.env.cells.lookup x = some c → ¬ S c
 live : ∀ x a, X3 x = false → Var cx.env h x (.ref a) → ∃ o, h.get? a = some o
 clean : ∀ (i : Nat) (x : Str) (m : Bool) (d : D), (Qf sc)[i]? = some x → ρ[i]? = some (some (.ow m d)) → X3 x = false
 hok : ∀ v, cx.A.handled = some v → ∃ C, RV S h v (.exc C)
 vars : ∀ (i : Nat) (x : Str) (t : T), (Qf sc)[i]? = some x → ρ[i]? = some (some t) → ∃ v, Var cx.env h x v ∧ Ew cx.h₀ S h v t
 inj : ∀ (i j : Nat) (x y : Str) (m m' : Bool) (d d' : D) (v : Value), (Qf sc)[i]? = some x → (Qf sc)[j]? = some y → ρ[i]? = some (some (.ow m d)) → ρ[j]? = some (some (.ow m' d')) → Var cx.env h x v → Var cx.env h y v → i = j
 dok : DOK cx sc ρ h
noncomputable def Qq (env : Env) (h h' : Heap) : Prop := ∀ x v, Var env h x v → Var env h' x v
theorem Qq.refl (env : Env) (h : Heap) : Qq env h h := fun _ _ q => q
theorem Qq.trans {env : Env} {h₁ h₂ h₃ : Heap} (a : Qq env h₁ h₂) (b : Qq env h₂ h₃) : Qq env h₁ h₃ := fun x v q => b x v (a x v q)
section
variable {G : Gd} {cx : Cx} {sc : Scope} {ρ : AEnv} {S S' : Addr → Prop} {h h' : Heap}
theorem Rel.ext_kp (_ : Rel G cx sc ρ S h) (k : Kp h h') : Ext S h S h' := Ext.of_kp k
theorem Ew.ext {h₀ : Heap} {v : Value} {t : T} (x : Ext S h S h') (k : Kp h h') (q : Ew h₀ S h v t) : Ew h₀ S h' v t := by
 cases t with
 | sh d => exact RV.ext x q
 | ow m d =>
  obtain ⟨a, e, ns, ow, n⟩ := q
  exact ⟨a, e, ns, ow.ext x fun o e' => k a o e', n⟩
theorem Var.of_kp {env : Env} (k : Kp h h') (ns : ∃ m, h.Ns env.locals m) (cl : ∀ x c, env.cells.lookup x = some c → ∃ v, h.IsCell c v) {x : Str} {v : Value} (q : Var env h' x v) : Var env h x v := by
 rcases q with ⟨a, m, b, c⟩ | ⟨a, c, b, d⟩
 ·obtain ⟨m₀, n₀⟩ := ns
  exact .inl ⟨a, m₀, n₀, by rw [(k.ns n₀).agree b x]; exact c⟩
 ·obtain ⟨v₀, i₀⟩ := cl x c b
  exact .inr ⟨a, c, b, by rw [IsCell.inj d (k.cell i₀)]; exact i₀⟩
theorem Rel.kp (r : Rel G cx sc ρ S h) (k : Kp h h') (hb : G.B.StaysIn h') : Rel G cx sc ρ S h' where
 base := hb
 keep := r.keep.trans k
 ff := r.ff.kp k
 ns := let ⟨m, n⟩ := r.ns; ⟨m, k.ns n⟩
 cells := fun x c e => let ⟨v, n⟩ := r.cells x c e; ⟨v, k.cell n⟩
 sdom := fun b q => let ⟨_, e⟩ := r.sdom b q; k.dom e
 sok := r.sok
 sloc := r.sloc
 scell := r.scell
 live := fun x a hd q => let ⟨_, e⟩ := r.live x a hd (Var.of_kp k r.ns r.cells q); k.dom e
 clean := r.clean
 hok := fun v q => let ⟨C, e⟩ := r.hok v q; ⟨C, e.ext (r.ext_kp k)⟩
 vars := fun i x t hx ht => by
  obtain ⟨v, hv, tv⟩ := r.vars i x t hx ht
  exact ⟨v, hv.kp k, tv.ext (r.ext_kp k) k⟩
 inj := fun i j x y m m' d d' v hx hy hi hj a b => r.inj i j x y m m' d d' v hx hy hi hj (Var.of_kp k r.ns r.cells a) (Var.of_kp k r.ns r.cells b)
 dok := r.dok.back fun _ _ q => Var.of_kp k r.ns r.cells q
theorem Rel.same (r : Rel G cx sc ρ S h) (k : Kp h h') : Qq cx.env h h' := fun _ _ q => q.kp k
theorem Rel.keeps (r : Rel G cx sc ρ S h) (k : ∀ b o, h.get? b = some o → h'.get? b = some o) : Rel G cx sc ρ S h' := r.kp (.of_keeps k) fun b o e => k b o (r.base b o e)
theorem Rel.notCell (r : Rel G cx sc ρ S h) {a : Addr} {o : Obj} (e : h.get? a = some o) (hd : ∀ v, o.data ≠ .cell v) : ∀ x c, cx.env.cells.lookup x = some c → c ≠ a := by
 rintro x c q rfl
 obtain ⟨v, o', e', hd'⟩ := r.cells x c q
 rw [e] at e'; cases e'; exact hd v hd'
theorem Rel.grow (r : Rel G cx sc ρ S h) {a : Addr} {o : Obj} (e : h.get? a = some o) (hn : cx.h₀.get? a = none) (hl : a ≠ cx.env.locals) (hcl : ∀ x c, cx.env.cells.lookup x = some c → c ≠ a) (hv : ∀ x, X3 x = false → ¬ Var cx.env h x (.ref a)) : Rel G cx sc ρ (fun b => S b ∨ b = a) h where
 base := r.base
 keep := r.keep
 ff := r.ff
 ns := r.ns
 cells := r.cells
 sdom := fun b q => q.elim (r.sdom b) fun q => ⟨o, by rw [q]; exact e⟩
 sok := fun b q => q.elim (r.sok b) fun q => .inr (by rw [q]; exact hn)
 sloc := fun q => q.elim r.sloc fun q => hl q.symm
 scell := fun x c e q => q.elim (r.scell x c e) (hcl x c e)
 live := r.live
 clean := r.clean
 hok := fun v q => let ⟨C, e⟩ := r.hok v q; ⟨C, e.ext (Ext.grow fun _ q => .inl q)⟩
 vars := fun i x t hx ht => by
  obtain ⟨v, hv', tv⟩ := r.vars i x t hx ht
  refine ⟨v, hv', ?_⟩
  cases t with
  | sh d => exact RV.ext (Ext.grow fun _ q => .inl q) tv
  | ow m d =>
   obtain ⟨b, rfl, ns, ow, n⟩ := tv
   exact ⟨b, rfl, fun q => q.elim ns fun q => hv x (r.clean i x m d hx ht) (q ▸ hv'), ow.ext (Ext.grow fun _ q => .inl q) (fun o e => ⟨o.slots, e, fun _ => rfl⟩), n⟩
 inj := r.inj
 dok := r.dok
end
inductive Res (α : Type) where
 | ok (a : α) (ρ : AEnv)
 | exc (C : Addr) (ρ : AEnv)
 | stuck
noncomputable def Res.bind {α β : Type} (r : Res α) (g : α → AEnv → Res β) : Res β := match r with
 | .ok a ρ => g a ρ
 | .exc C ρ => .exc C ρ
 | .stuck => .stuck
noncomputable def ob {α β : Type} (o : Option α) (k : α → Res β) : Res β := o.elim .stuck k
inductive Fly (h h' : Heap) (e C : Addr) : Prop
 | mk (n : h.get? e = none) (oe : Obj) (vs : Array Value) (a : h'.get? e = some oe) (b : oe.cls = .ref C) (b' : oe.dict = none) (c : oe.data = .fields vs) (d : vs[2]? = some .none)
  (k : vs[1]? = some .none ∨ ∃ T oT ts, vs[1]? = some (.ref T) ∧ T ≠ e ∧ h.get? T = none ∧ h'.get? T = some oT ∧ oT.cls = .type "traceback" ∧ oT.data = .fields ts ∧ 3 < ts.size) : Fly h h' e C
theorem Fly.back {S S' : Addr → Prop} {h₀ h h' : Heap} {e C : Addr} (x : Ext S h₀ S' h) (q : Fly h h' e C) : Fly h₀ h' e C := by
 obtain ⟨n, oe, vs, a, b, b', c, d, k⟩ := q
 refine ⟨x.none n, oe, vs, a, b, b', c, d, k.imp id ?_⟩
 rintro ⟨T, oT, ts, k1, k2, k3, k4⟩
 exact ⟨T, oT, ts, k1, k2, x.none k3, k4⟩
noncomputable def Out (G : Gd) (cx : Cx) (sc : Scope) (same : Bool) {α β : Type} (S : Addr → Prop) (s : Shared) (J : (Addr → Prop) → Heap → α → β → Prop) (Q : α → Shared → Prop) (E : Value → Shared → Prop) : Res β → Prop
 | .ok b ρ => ∀ a h' tk S', Rel G cx sc ρ S' h' → J S' h' a b → Ext S s.heap S' h' → (same = true → Qq cx.env s.heap h') → Q a { s with heap := h', toks := tk }
 | .exc C ρ => ∀ e h' tk S', Rel G cx sc ρ S' h' → Fly s.heap h' e C → Ext S s.heap S' h' → E (.ref e) { s with heap := h', toks := tk }
 | .stuck => False
noncomputable def Qk (G : Gd) (cx : Cx) (sc : Scope) (same : Bool) {α β : Type} (m : Sem α) (S : Addr → Prop) (s : Shared) (J : (Addr → Prop) → Heap → α → β → Prop) (r : Res β) : Prop :=
 ∀ Q E, Out G cx sc same S s J Q E r → wpAny G.M cx.A m Q E s
section
variable {G : Gd} {cx : Cx} {sc : Scope} {same : Bool} {α β γ δ : Type} {S : Addr → Prop} {s : Shared}
theorem Qk.bind {m : Sem α} {k : α → Sem γ} {J : (Addr → Prop) → Heap → α → β → Prop} {J' : (Addr → Prop) → Heap → γ → δ → Prop} {r : Res β} {g : β → AEnv → Res δ}
  (h1 : Qk G cx sc same m S s J r)
  (h2 : ∀ b ρ' a h' tk S', r = .ok b ρ' → Rel G cx sc ρ' S' h' → J S' h' a b → Ext S s.heap S' h' → (same = true → Qq cx.env s.heap h') → Qk G cx sc same (k a) S' { s with heap := h', toks := tk } J' (g b ρ')) :
  Qk G cx sc same (m >>= k) S s J' (r.bind g) := by
 intro Q E out
 refine wpAny_bind (h1 _ _ ?_)
 cases r with
 | stuck => exact out
 | exc C ρ => intro e h' tk S' rel fly x; exact out e h' tk S' rel fly x
 | ok b ρ =>
  intro a h' tk S' rel j x v
  refine h2 b ρ a h' tk S' rfl rel j x v _ _ ?_
  show Out G cx sc same S' _ J' Q E (g b ρ)
  cases hg : g b ρ with
  | stuck => rw [Res.bind, hg] at out; exact out
  | exc C ρ' =>
   rw [Res.bind, hg] at out
   intro e h₂ tk₂ S₂ rel₂ fly₂ x₂
   exact out e h₂ tk₂ S₂ rel₂ (fly₂.back x) (x.trans x₂)
  | ok c ρ' =>
   rw [Res.bind, hg] at out
   intro a₂ h₂ tk₂ S₂ rel₂ j₂ x₂ v₂
   exact out a₂ h₂ tk₂ S₂ rel₂ j₂ (x.trans x₂) fun q => (v q).trans (v₂ q)
theorem Qk.pure {a : α} {b : β} {ρ : AEnv} {J : (Addr → Prop) → Heap → α → β → Prop} (rel : Rel G cx sc ρ S s.heap) (j : J S s.heap a b) : Qk G cx sc same (pure a) S s J (.ok b ρ) :=
 fun _ _ out => wpAny_pure (out a s.heap s.toks S rel j (Ext.refl ..) fun _ => Qq.refl _ _)
theorem Qk.loose {m : Sem α} {J : (Addr → Prop) → Heap → α → β → Prop} {r : Res β} (h : Qk G cx sc true m S s J r) : Qk G cx sc same m S s J r := by
 intro Q E out
 refine h Q E ?_
 cases r with
 | stuck => exact out
 | exc C ρ => exact out
 | ok b ρ => intro a h' tk S' rel j x v; exact out a h' tk S' rel j x fun _ => v rfl
theorem Qk.standAt {k : Sem α} {pos : Pos} {J : (Addr → Prop) → Heap → α → β → Prop} {r : Res β} (h : Qk G cx sc same k S s J r) : Qk G cx sc same (do standAt pos; k) S s J r :=
 fun Q E out => wpAny_bind (wpAny_standAt (h Q E out))
theorem Qk.holding {k : Sem α} {vs : List Value} {J : (Addr → Prop) → Heap → α → β → Prop} {r : Res β} (h : Qk G cx sc same k S s J r) : Qk G cx sc same (holding vs k) S s J r :=
 fun Q E out => wpAny_holding (h Q E out)
end
section
variable {G : Gd} {cx : Cx} {sc : Scope} {same same₁ : Bool} {α β γ δ : Type} {S S₁ : Addr → Prop} {s : Shared} {h₁ : Heap} {t₁ : Nat} {Q : γ → Shared → Prop} {E : Value → Shared → Prop}
theorem Out.step {J : (Addr → Prop) → Heap → α → β → Prop} {J' : (Addr → Prop) → Heap → γ → δ → Prop} {Q₁ : α → Shared → Prop} {r : Res β} {g : β → AEnv → Res δ} (out : Out G cx sc same S s J' Q E (r.bind g)) (x : Ext S s.heap S₁ h₁)
  (H : ∀ b ρ, Out G cx sc same S s J' Q E (g b ρ) → ∀ a h' tk S', Rel G cx sc ρ S' h' → J S' h' a b → Ext S₁ h₁ S' h' → (same₁ = true → Qq cx.env h₁ h') → Q₁ a { s with heap := h', toks := tk }) :
  Out G cx sc same₁ S₁ { s with heap := h₁, toks := t₁ } J Q₁ E r := by
 cases r with
 | stuck => exact out
 | exc C ρ => exact fun e h' tk S' r' f' x' => out e h' tk S' r' (f'.back x) (x.trans x')
 | ok b ρ => exact H b ρ out
theorem Out.step0 {J : (Addr → Prop) → Heap → α → β → Prop} {J' : (Addr → Prop) → Heap → γ → δ → Prop} {Q₁ : α → Shared → Prop} {r : Res β} {g : β → AEnv → Res δ} (out : Out G cx sc same S s J' Q E (r.bind g))
  (H : ∀ b ρ, Out G cx sc same S s J' Q E (g b ρ) → ∀ a h' tk S', Rel G cx sc ρ S' h' → J S' h' a b → Ext S s.heap S' h' → (same₁ = true → Qq cx.env s.heap h') → Q₁ a { s with heap := h', toks := tk }) : Out G cx sc same₁ S s J Q₁ E r := by
 cases r with
 | stuck => exact out
 | exc C ρ => exact out
 | ok b ρ => exact H b ρ out
theorem Out.step0S {J' : (Addr → Prop) → Heap → γ → δ → Prop} {Q₁ : Value → Shared → Prop} {r : Res T} {g : T → AEnv → Res δ} (out : Out G cx sc same S s J' Q E (r.bind g))
  (H : ∀ b ρ, Out G cx sc same S s J' Q E (g b ρ) → ∀ a h' tk S', Rel G cx sc ρ S' h' → RV S' h' a b.val → Ext S s.heap S' h' → (same₁ = true → Qq cx.env s.heap h') → Q₁ a { s with heap := h', toks := tk }) :
  Out G cx sc same₁ S s (fun S' h' v d => RV S' h' v d) Q₁ E (r.bind fun t ρ => .ok t.val ρ) := by
 cases r with
 | stuck => exact out
 | exc C ρ => exact out
 | ok b ρ => exact H b ρ out
theorem Out.ob {J : (Addr → Prop) → Heap → γ → δ → Prop} {o : Option α} {k : α → Res δ} (out : Out G cx sc same S s J Q E (ob o k)) : ∃ a, o = some a ∧ Out G cx sc same S s J Q E (k a) := by
 cases o with
 | none => exact out.elim
 | some a => exact ⟨a, rfl, out⟩
theorem Qk.ob {J : (Addr → Prop) → Heap → γ → δ → Prop} {m : Sem γ} {o : Option α} {k : α → Res δ} (h : ∀ a, o = some a → Qk G cx sc same m S s J (k a)) : Qk G cx sc same m S s J (ob o k) := fun Q E out => let ⟨a, e, out⟩ := out.ob; h a e Q E out
theorem Out.when {J : (Addr → Prop) → Heap → γ → δ → Prop} {c : Prop} [Decidable c] {r : Res δ} (out : Out G cx sc same S s J Q E (if c then r else .stuck)) : c ∧ Out G cx sc same S s J Q E r := by
 by_cases h : c
 ·rw [if_pos h] at out; exact ⟨h, out⟩
 ·rw [if_neg h] at out; exact out.elim
theorem IB {o : Option D} {i : Int} (h : o.bind asI = some i) : o = some (.int i) := by
 obtain ⟨d, e, h⟩ := Option.bind_eq_some_iff.mp h
 rw [e, Je h]
theorem Out.lift {J : (Addr → Prop) → Heap → γ → δ → Prop} {r : Res δ} (out : Out G cx sc same S s J Q E r) (x : Ext S s.heap S₁ h₁) (v : same = true → Qq cx.env s.heap h₁) : Out G cx sc same S₁ { s with heap := h₁, toks := t₁ } J Q E r := by
 cases r with
 | stuck => exact out
 | exc C ρ => exact fun e h' tk S' r' f' x' => out e h' tk S' r' (f'.back x) (x.trans x')
 | ok b ρ => exact fun a h' tk S' r' j' x' v' => out a h' tk S' r' j' (x.trans x') fun q => (v q).trans (v' q)
end
inductive Fresh (cx : Cx) (S : Addr → Prop) (h : Heap) (v : Value) (d : D) : Prop
 | mk (a : Addr) (e : v = .ref a) (n : ¬ S a) (o : XM S h a d) (k : cx.h₀.get? a = none) (nv : ∀ x, X3 x = false → ¬ Var cx.env h x (.ref a)) : Fresh cx S h v d
noncomputable def Yp (cx : Cx) (S : Addr → Prop) (h : Heap) (v : Value) : T → Prop
 | .sh d => RV S h v d
 | .ow _ d => Fresh cx S h v d
noncomputable def TSt (cx : Cx) (S : Addr → Prop) (h : Heap) (v : Value) : T → Prop
 | .sh d => RV S h v d
 | .ow _ d => ∃ a, v = .ref a ∧ ¬ S a ∧ Uh S h a d ∧ cx.h₀.get? a = none ∧ (∀ x, X3 x = false → ¬ Var cx.env h x (.ref a)) ∧ ((∃ ks ds, d = .dict ks ds) → a ≠ cx.env.locals)
theorem Yp.st {cx : Cx} {S : Addr → Prop} {h : Heap} {v : Value} {t : T} (q : Yp cx S h v t) : TSt cx S h v t := by
 cases t with
 | sh d => exact q
 | ow m d =>
  obtain ⟨a, e, n, o, k, nv⟩ := q
  refine ⟨a, e, n, o.v, k, nv, ?_⟩
  rintro ⟨ks, ds, rfl⟩
  exact o.elim
theorem Rel.drop {G : Gd} {cx : Cx} {sc : Scope} {ρ : AEnv} {S : Addr → Prop} {h : Heap} {v : Value} {t : T} (r : Rel G cx sc ρ S h) (q : Yp cx S h v t) :
  ∃ S', Rel G cx sc ρ S' h ∧ RV S' h v t.val ∧ Ext S h S' h := by
 cases t with
 | sh d => exact ⟨S, r, q, .refl ..⟩
 | ow m d =>
  obtain ⟨a, rfl, ns, ow, n, nv⟩ := q
  obtain ⟨o, ho, hc, vs, k, hd⟩ := ow.cls
  have hl : a ≠ cx.env.locals := by
   rintro rfl
   obtain ⟨m', o', es, ep, e', hd', _⟩ := r.ns
   rw [ho] at e'; cases e'; rw [hd] at hd'; cases hd'
  refine ⟨_, r.grow ho n hl (r.notCell ho (by rw [hd]; intro v q; cases q)) nv, ?_, Ext.grow fun _ q => .inl q⟩
  unfold XM at ow
  split at ow
  ·obtain ⟨vs', n', e', rv⟩ := ow
   exact .list (.inr rfl) e' ⟨rfl, rfl, rfl⟩ rfl (rv.ext (Ext.grow fun _ q => .inl q))
  ·exact ow.elim
noncomputable def Bt (A : Around) (k : Nat) : Prop := A.depth + k ≤ 900 ∧ A.units + 8 * k ≤ 9000
theorem Bt.mono {A : Around} {k k' : Nat} (h : Bt A k) (hk : k' ≤ k) : Bt A k' := ⟨by have := h.1; lia, by have := h.2; lia⟩
structure CxOk (G : Gd) (cx : Cx) (sc : Scope) (k : Nat) : Prop where
 hsc : cx.env.scope = sc
 hk : sc.kind = .function
 hg : cx.env.globals = mainGlobals
 hb : cx.env.builtins = builtinsNs
 fr : cx.A.frames = some cx.fs
 top : ∃ env outer, cx.fs = env :: outer ∧ cx.env.frame = env.frame
 hd : G.quiet = true → cx.A.handled = none
 room : Bt cx.A k
 nodup : (Qf sc).Nodup
 bh : G.B.StaysIn cx.h₀
theorem CxOk.mono {G : Gd} {cx : Cx} {sc : Scope} {k k' : Nat} (h : CxOk G cx sc k) (hk : k' ≤ k) : CxOk G cx sc k' := { h with room := h.room.mono hk }
noncomputable def Sim (G : Gd) (k : Nat) (sc : Scope) (e : Expr) (f : AEnv → Res T) : Prop :=
 ∀ cx, CxOk G cx sc k → ∀ ρ S s, Rel G cx sc ρ S s.heap → Qk G cx sc true (eval e cx.env) S s (fun S' h' v t => Yp cx S' h' v t) (f ρ)
end Mine
end

section
namespace Mine
open PySem
inductive RB (S : Addr → Prop) (h : Heap) : Value → D → Prop
 | of {v : Value} {d : D} : RV S h v d → RB S h v d
 | own {a : Addr} {d : D} : XM S h a d → RB S h (.ref a) d
inductive SeqV (c : String) (S : Addr → Prop) (h : Heap) (v : Value) (ds : List D) : Prop
 | mk (a : Addr) (o : Obj) (vs : Array Value) (n : Nat) (e : v = .ref a) (h1 : h.get? a = some o) (h2 : o.cls = .type c) (h3 : o.data = .seq vs n) (q : RVs S h vs.toList ds) : SeqV c S h v ds
theorem RB.list {S : Addr → Prop} {h : Heap} {v : Value} {ds : List D} (q : RB S h v (.list ds)) : SeqV "list" S h v ds := by
 cases q with
 | of q => cases q with | list _ e hc hd r => exact ⟨_, _, _, _, rfl, e, hc.1, hd, r⟩
 | own q => obtain ⟨vs, n, e, r⟩ := q; exact ⟨_, _, _, _, rfl, e, rfl, rfl, r⟩
theorem RB.rv {S : Addr → Prop} {h : Heap} {v : Value} {d : D} (q : RB S h v d) (hd : ∀ ds, d ≠ .list ds) : RV S h v d := by
 cases q with
 | of q => exact q
 | own q =>
  unfold XM at q
  split at q
  ·exact absurd rfl (hd _)
  ·exact q.elim
theorem RB.any {S : Addr → Prop} {h : Heap} {v : Value} {d : D} (q : RB S h v d) : RV (fun _ => True) h v d := by
 cases q with
 | of q => exact q.ext (Ext.grow fun _ _ => trivial)
 | own q =>
  unfold XM at q
  split at q
  ·obtain ⟨vs, n, e, r⟩ := q; exact .list trivial e ⟨rfl, rfl, rfl⟩ rfl (r.ext (Ext.grow fun _ _ => trivial))
  ·exact q.elim
inductive Bv where
 | val (d : D)
 | var (i : Nat)
noncomputable def Bv.get (ρ : AEnv) : Bv → Option D
 | .val d => some d
 | .var i => match ρ[i]? with
  | some (some t) => t.get
  | _ => none
noncomputable def ZT (cx : Cx) (sc : Scope) (S : Addr → Prop) (h : Heap) (v : Value) : Bv → Prop
 | .val d => RV S h v d
 | .var i => ∃ x, (Qf sc)[i]? = some x ∧ Var cx.env h x v
section
variable {G : Gd} {cx : Cx} {sc : Scope} {ρ : AEnv} {S S' : Addr → Prop} {h h' : Heap} {v : Value} {b : Bv} {d : D}
theorem ZT.ext (q : ZT cx sc S h v b) (x : Ext S h S' h') (k : Qq cx.env h h') : ZT cx sc S' h' v b := by
 cases b with
 | val d => exact RV.ext x q
 | var i => obtain ⟨y, hy, hv⟩ := q; exact ⟨y, hy, k y v hv⟩
set_option tactic.hygienic true in
theorem ZT.rb (q : ZT cx sc S h v b) (r : Rel G cx sc ρ S h) (e : b.get ρ = some d) : RB S h v d := by
 cases b with
 | val d' => cases e; exact .of q
 | var i =>
  obtain ⟨y, hy, hv⟩ := q
  simp only [Bv.get] at e
  split at e
  ·rename_i t ht
   obtain ⟨w, hw, tv⟩ := r.vars i y t hy ht
   rw [Var.inj hv hw]
   cases t with
   | sh d => cases e; exact .of tv
   | ow m d =>
    obtain ⟨a, rfl, _, ow, _⟩ := tv
    cases d with
    | list ds => cases e; exact .own ow
    | _ => cases e
  ·cases e
theorem Xr {x : Str} (ok : CxOk G cx sc 0) (hv : Var cx.env h x v) (hn : (x == ("__classdict__" : Str)) = false) {M : Model} {A : Around} {s : Shared} (hs : s.heap = h) {Q : Value → Shared → Prop} {E : Value → Shared → Prop} (hQ : Q v s) :
  wpAny M A (loadName cx.env x) Q E s := by
 subst hs
 have hk : cx.env.scope.kind = .function := by rw [ok.hsc]; exact ok.hk
 rcases hv with ⟨a, m, b, c⟩ | ⟨a, c, b, d⟩
 ·exact wpAny_loadName_local hk a b c hQ
 ·rcases a with a | a
  ·exact wpAny_loadName_cell hk a b d hQ
  ·exact wpAny_loadName_free hk a b d hQ hn
end
noncomputable def Qh (G : Gd) (k : Nat) (sc : Scope) (e : Expr) (f : AEnv → Res Bv) : Prop :=
 ∀ cx, CxOk G cx sc k → ∀ ρ S s, Rel G cx sc ρ S s.heap → Qk G cx sc true (eval e cx.env) S s (fun S' h' v b => ZT cx sc S' h' v b) (f ρ)
noncomputable def Qc (f : AEnv → Res T) : AEnv → Res Bv := fun ρ => (f ρ).bind fun t ρ' => .ok (.val t.val) ρ'
theorem Qh.of {G : Gd} {k : Nat} {sc : Scope} {e : Expr} {f : AEnv → Res T} (h : Sim G k sc e f) : Qh G k sc e (Qc f) := by
 intro cx ok ρ S s r Q E out
 refine h cx ok ρ S s r Q E ?_
 refine out.step0 fun t ρ' out v h' tk S' rel j x vs => ?_
 obtain ⟨S₂, rel₂, rv, x₂⟩ := rel.drop j
 exact out v h' tk S₂ rel₂ rv (x.trans x₂) vs
noncomputable def eOp (i : Nat) : AEnv → Res Bv := fun ρ => match ρ[i]? with
 | some (some _) => .ok (.var i) ρ
 | _ => .stuck
set_option tactic.hygienic true in
theorem EF {G : Gd} {k : Nat} {sc : Scope} {x : Str} {pos : Pos} {i : Nat} (hx : (Qf sc)[i]? = some x) (hd : (x == ("__debug__" : Str)) = false) (hn : (x == ("__classdict__" : Str)) = false) :
  Qh G k sc (.Name x pos) (eOp i) := by
 intro cx ok ρ S s r Q E out
 unfold eOp at out
 split at out
 ·rename_i t ht
  obtain ⟨v, hv, tv⟩ := r.vars i x t hx ht
  exact wpAny_Name (Xr (ok.mono (Nat.zero_le _)) hv hn rfl (out v s.heap s.toks S r ⟨x, hx, hv⟩ (Ext.refl ..) fun _ => Qq.refl _ _)) hd
 ·exact out.elim
theorem Rel.dropVar {G : Gd} {cx : Cx} {sc : Scope} {ρ : AEnv} {S : Addr → Prop} {h : Heap} {i : Nat} {x : Str} {ds : List D} {v : Value} (r : Rel G cx sc ρ S h) (hx : (Qf sc)[i]? = some x) (ht : ρ[i]? = some (some (.ow true (.list ds)))) (hv : Var cx.env h x v) :
  ∃ S', Rel G cx sc (ρ.set i (some (.sh (.list ds)))) S' h ∧ RV S' h v (.list ds) ∧ Ext S h S' h := by
 obtain ⟨w, hw, a, rfl, ns, ow, n⟩ := r.vars i x _ hx ht
 rw [Var.inj hv hw]
 have ow : XM S h a (.list ds) := ow
 generalize hdd : D.list ds = d at *
 obtain ⟨o, ho, hc, vs, nn, hd⟩ := ow.cls
 have hl : a ≠ cx.env.locals := by
  rintro rfl
  obtain ⟨m', o', es, ep, e', hd', _⟩ := r.ns
  rw [ho] at e'; cases e'; rw [hd] at hd'; cases hd'
 have rv : RV (fun b => S b ∨ b = a) h (.ref a) d := by
  unfold XM at ow
  split at ow
  ·obtain ⟨vs', n', e', rv⟩ := ow
   exact .list (.inr rfl) e' ⟨rfl, rfl, rfl⟩ rfl (rv.ext (Ext.grow fun _ q => .inl q))
  ·exact ow.elim
 refine ⟨fun b => S b ∨ b = a, ⟨r.base, r.keep, r.ff, r.ns, r.cells, fun b q => q.elim (r.sdom b) fun q => ⟨o, by rw [q]; exact ho⟩, fun b q => q.elim (r.sok b) fun q => .inr (by rw [q]; exact n rfl),
  fun q => q.elim r.sloc fun q => hl q.symm, fun x c e q => q.elim (r.scell x c e) (r.notCell ho (by rw [hd]; intro v q; cases q) x c e), r.live, fun j y m e hy hj => ?_, fun v q => let ⟨C, e⟩ := r.hok v q; ⟨C, e.ext (Ext.grow fun _ q => .inl q)⟩, fun j y t hy htj => ?_, fun j k y z m m' e e' u hy hz hj hk a b => ?_, r.dok.set fun _ _ _ q => by cases q⟩, rv, Ext.grow fun _ q => .inl q⟩
 ·have hji : i ≠ j := by rintro rfl; rw [List.getElem?_set_self (by rw [List.getElem?_eq_some_iff] at ht; exact ht.1)] at hj; cases hj
  rw [List.getElem?_set_ne hji] at hj
  exact r.clean j y m e hy hj
 ·by_cases hij : i = j
  ·subst hij
   have : (ρ.set i (some (T.sh d)))[i]? = some (some (T.sh d)) := by
    rw [List.getElem?_set_self]; rw [List.getElem?_eq_some_iff] at ht; exact ht.1
   rw [this] at htj; cases htj
   rw [hx] at hy; cases hy
   exact ⟨_, hw, rv⟩
  ·rw [List.getElem?_set_ne hij] at htj
   obtain ⟨u, hu, tv⟩ := r.vars j y t hy htj
   refine ⟨u, hu, ?_⟩
   cases t with
   | sh e => exact RV.ext (Ext.grow fun _ q => .inl q) tv
   | ow m e =>
    obtain ⟨b, rfl, nb, owb, n'⟩ := tv
    refine ⟨b, rfl, fun q => q.elim nb fun q => ?_, owb.ext (Ext.grow fun _ q => .inl q) (fun o e => ⟨o.slots, e, fun _ => rfl⟩), n'⟩
    subst q
    exact hij (r.inj i j x y true m d e (.ref b) hx hy ht htj hw hu)
 ·have hji : i ≠ j := by rintro rfl; rw [List.getElem?_set_self (by rw [List.getElem?_eq_some_iff] at ht; exact ht.1)] at hj; cases hj
  have hki : i ≠ k := by rintro rfl; rw [List.getElem?_set_self (by rw [List.getElem?_eq_some_iff] at ht; exact ht.1)] at hk; cases hk
  rw [List.getElem?_set_ne hji] at hj
  rw [List.getElem?_set_ne hki] at hk
  exact r.inj j k y z m m' e e' u hy hz hj hk a b
noncomputable def Q3 (i : Nat) : AEnv → Res T := fun ρ => match ρ[i]? with
 | some (some (.sh d)) => .ok (.sh d) ρ
 | some (some (.ow true (.list ds))) => .ok (.sh (.list ds)) (ρ.set i (some (.sh (.list ds))))
 | _ => .stuck
set_option tactic.hygienic true in
theorem Fq {G : Gd} {k : Nat} {sc : Scope} {x : Str} {pos : Pos} {i : Nat} (hx : (Qf sc)[i]? = some x) (hd : (x == ("__debug__" : Str)) = false) (hn : (x == ("__classdict__" : Str)) = false) :
  Sim G k sc (.Name x pos) (Q3 i) := by
 intro cx ok ρ S s r Q E out
 unfold Q3 at out
 split at out
 ·rename_i d ht
  obtain ⟨v, hv, tv⟩ := r.vars i x _ hx ht
  exact wpAny_Name (Xr (ok.mono (Nat.zero_le _)) hv hn rfl (out v s.heap s.toks S r tv (Ext.refl ..) fun _ => Qq.refl _ _)) hd
 ·rename_i d ht
  obtain ⟨v, hv, tv⟩ := r.vars i x _ hx ht
  obtain ⟨S', r', rv, x'⟩ := r.dropVar hx ht hv
  exact wpAny_Name (Xr (ok.mono (Nat.zero_le _)) hv hn rfl (out v s.heap s.toks S' r' rv x' fun _ => Qq.refl _ _)) hd
 ·exact out.elim
noncomputable def Qe (d : D) : AEnv → Res T := fun ρ => .ok (.sh d) ρ
section
variable {G : Gd} {k : Nat} {sc : Scope} {pos : Pos} {kk : Nat}
theorem Cr : Sim G k sc (.Constant .none kk pos) (Qe .none) := fun _ _ _ _ s r _ _ out => wpAny_Constant_none (out _ s.heap s.toks _ r .none (Ext.refl ..) fun _ => Qq.refl _ _)
theorem ZO {b : Bool} : Sim G k sc (.Constant (.bool b) kk pos) (Qe (.bool b)) := fun _ _ _ _ s r _ _ out => wpAny_Constant_bool (out _ s.heap s.toks _ r (.bool b) (Ext.refl ..) fun _ => Qq.refl _ _)
theorem Qt {i : Int} : Sim G k sc (.Constant (.int i) kk pos) (Qe (.int i)) := fun _ _ _ _ s r _ _ out => wpAny_Constant_int (out _ s.heap _ _ r (.int i _) (Ext.refl ..) fun _ => Qq.refl _ _)
theorem Dn {x : Str} {v : Value} (hG : G.Ok) (hx : sc.names.lookup x = some .globalImplicit) (hv : G.mg x = some v) (hl : ∀ a, v = .ref a → ∃ o, G.B.get? a = some o) (hd : (x == ("__debug__" : Str)) = false) : Sim G k sc (.Name x pos) (Qe (.glob v)) := by
 intro cx ok ρ S s r Q E out
 refine Calls.Name_function_global (by rw [ok.hsc]; exact ok.hk) (by unfold Env.kindOf; rw [ok.hsc]; exact hx) (Calls.loadGlobal_global (mg := G.mg) (by rw [ok.hg]; exact hG.g.keeps r.base) hv ?_) hd
 exact out _ s.heap s.toks _ r (.glob v fun a e => let ⟨o, e'⟩ := hl a e; ⟨o, r.base _ _ e'⟩) (Ext.refl ..) fun _ => Qq.refl _ _
theorem Co {x : Str} {v : Value} (hG : G.Ok) (hx : sc.names.lookup x = some .globalImplicit) (hm : G.mg x = none) (hv : G.mb x = some v) (hl : ∀ a, v ≠ .ref a) (hd : (x == ("__debug__" : Str)) = false) : Sim G k sc (.Name x pos) (Qe (.glob v)) := by
 intro cx ok ρ S s r Q E out
 refine Calls.Name_function_global (by rw [ok.hsc]; exact ok.hk) (by unfold Env.kindOf; rw [ok.hsc]; exact hx) (Calls.loadGlobal_builtin (mg := G.mg) (mb := G.mb) (by rw [ok.hg]; exact hG.g.keeps r.base) hm (by rw [ok.hb]; exact hG.b.keeps r.base) hv ?_) hd
 exact out _ s.heap s.toks _ r (.glob v fun a e => (hl a e).elim) (Ext.refl ..) fun _ => Qq.refl _ _
end
noncomputable def Op1 (G : Gd) (m : Value → Sem Value) (F : D → Option T) : Prop :=
 ∀ cx sc, CxOk G cx sc 0 → ∀ ρ S s v x t, Rel G cx sc ρ S s.heap → RB S s.heap v x → F x = some t → Qk G cx sc true (m v) S s (fun S' h' v t => Yp cx S' h' v t) (.ok t ρ)
noncomputable def Op2 (G : Gd) (m : Value → Value → Sem Value) (F : D → D → Option T) : Prop :=
 ∀ cx sc, CxOk G cx sc 0 → ∀ ρ S s v w x y t, Rel G cx sc ρ S s.heap → RB S s.heap v x → RB S s.heap w y → F x y = some t → Qk G cx sc true (m v w) S s (fun S' h' v t => Yp cx S' h' v t) (.ok t ρ)
noncomputable def Bs (F : D → Option T) (f : AEnv → Res Bv) : AEnv → Res T := fun ρ => (f ρ).bind fun a ρ₁ => ob (a.get ρ₁) fun x => ob (F x) fun t => .ok t ρ₁
noncomputable def Qr (F : D → D → Option T) (f g : AEnv → Res Bv) : AEnv → Res T := fun ρ => (f ρ).bind fun a ρ₁ => (g ρ₁).bind fun b ρ₂ => ob (a.get ρ₂) fun x => ob (b.get ρ₂) fun y => ob (F x y) fun t => .ok t ρ₂
section
variable {G : Gd} {cx : Cx} {sc : Scope} {same : Bool} {α β : Type} {S : Addr → Prop} {s : Shared}
theorem Qk.stuck {m : Sem α} {J : (Addr → Prop) → Heap → α → β → Prop} : Qk G cx sc same m S s J .stuck := fun _ _ out => out.elim
theorem Qk.wp {m m' : Sem α} {J : (Addr → Prop) → Heap → α → β → Prop} {r : Res β} (h : Qk G cx sc same m S s J r) (k : ∀ Q E, wpAny G.M cx.A m Q E s → wpAny G.M cx.A m' Q E s) : Qk G cx sc same m' S s J r :=
 fun Q E out => k Q E (h Q E out)
theorem Qk.operate {m : Sem Value} {vs : List Value} {J : (Addr → Prop) → Heap → Value → β → Prop} {r : Res β} (h : Qk G cx sc same m S s J r) : Qk G cx sc same (operate vs m) S s J r :=
 h.wp fun _ _ h => wpAny_operating h
end
theorem WF {G : Gd} {cx : Cx} {sc : Scope} {γ δ : Type} {S : Addr → Prop} {s : Shared} {l r : Expr} {f g : AEnv → Res Bv} {k : Nat} {ρ : AEnv} {n : Value → Value → Sem γ} {J : (Addr → Prop) → Heap → γ → δ → Prop} {K : D → D → AEnv → Res δ}
  (hl : Qh G k sc l f) (hr : Qh G k sc r g) (ok : CxOk G cx sc k) (rel : Rel G cx sc ρ S s.heap)
  (h : ∀ ρ' S' h' tk v w x y, Rel G cx sc ρ' S' h' → RB S' h' v x → RB S' h' w y → Qk G cx sc true (n v w) S' { s with heap := h', toks := tk } J (K x y ρ'))  :
  Qk G cx sc true (do let a ← eval l cx.env; let b ← holding [a] (eval r cx.env); n a b) S s J ((f ρ).bind fun a ρ₁ => (g ρ₁).bind fun b ρ₂ => ob (a.get ρ₂) fun x => ob (b.get ρ₂) fun y => K x y ρ₂) := by
 refine Qk.bind (hl cx ok ρ S s rel) fun a ρ₁ va h₁ t₁ S₁ _ rel₁ ja x₁ v₁ => ?_
 refine Qk.bind (Qk.holding (hr cx ok ρ₁ S₁ { s with heap := h₁, toks := t₁ } rel₁)) fun b ρ₂ vb h₂ t₂ S₂ _ rel₂ jb x₂ v₂ => ?_
 have ja₂ : ZT cx sc S₂ h₂ va a := ZT.ext ja x₂ (v₂ rfl)
 exact Qk.ob fun x hx => Qk.ob fun y hy => h ρ₂ S₂ h₂ t₂ va vb x y rel₂ (ja₂.rb rel₂ hx) (ZT.rb jb rel₂ hy)
theorem Qo {G : Gd} {k : Nat} {sc : Scope} {l r : Expr} {op : Operator} {pos : Pos} {f g : AEnv → Res Bv} {F : D → D → Option T} (hl : Qh G k sc l f) (hr : Qh G k sc r g) (hop : Op2 G (binaryOp op) F) :
  Sim G k sc (.BinOp l op r pos) (Qr F f g) := by
 intro cx ok ρ S s rel
 show Qk G cx sc true (do let a ← eval l cx.env; let b ← holding [a] (eval r cx.env); standAt pos; operate [a, b] (binaryOp op a b)) S s _ _
 refine WF (K := fun x y ρ₂ => ob (F x y) fun t => .ok t ρ₂) hl hr ok rel fun ρ' S' h' tk v w x y rel' rx ry => ?_
 exact Qk.standAt (Qk.operate (Qk.ob fun t ht => hop cx sc (ok.mono (Nat.zero_le _)) ρ' S' { s with heap := h', toks := tk } v w x y t rel' rx ry ht))
theorem VU {G : Gd} {k : Nat} {sc : Scope} {l r : Expr} {op : CmpOp} {pos : Pos} {f g : AEnv → Res Bv} {F : D → D → Option T} (hl : Qh G k sc l f) (hr : Qh G k sc r g) (hop : Op2 G (compareOp op) F)
  (hm : behindInMarks op r = false) : Sim G k sc (.Compare l [op] [r] pos) (Qr F f g) := by
 intro cx ok ρ S s rel
 rw [eval_Compare1, markedBehindIn_of_false hm]
 refine WF (K := fun x y ρ₂ => ob (F x y) fun t => .ok t ρ₂) hl hr ok rel fun ρ' S' h' tk v w x y rel' rx ry => ?_
 exact Qk.standAt (Qk.operate (Qk.ob fun t ht => hop cx sc (ok.mono (Nat.zero_le _)) ρ' S' { s with heap := h', toks := tk } v w x y t rel' rx ry ht))
theorem Jc {G : Gd} {k : Nat} {sc : Scope} {x : Expr} {op : UnaryOp} {pos : Pos} {f : AEnv → Res Bv} {F : D → Option T} (hx : Qh G k sc x f) (hop : Op1 G (unaryOp op) F) : Sim G k sc (.UnaryOp op x pos) (Bs F f) := by
 intro cx ok ρ S s rel
 show Qk G cx sc true (do let v ← eval x cx.env; standAt pos; holding [v] (unaryOp op v)) S s _ _
 refine Qk.bind (hx cx ok ρ S s rel) fun a ρ₁ va h₁ t₁ S₁ _ rel₁ ja x₁ v₁ => ?_
 exact Qk.standAt (Qk.holding (Qk.ob fun d hd => Qk.ob fun t ht => hop cx sc (ok.mono (Nat.zero_le _)) ρ₁ S₁ { s with heap := h₁, toks := t₁ } va d t rel₁ (ZT.rb ja rel₁ hd) ht))
noncomputable def small (b : Int) : Bool := decide (b.natAbs < 2 ^ 63)
noncomputable def Va : D → D → Option T
 | .int a, .int b => some (.sh (.int (a - b)))
 | _, _ => none
noncomputable def IE : D → D → Option T
 | .int a, .int b => if small a || small b then some (.sh (.int (a * b))) else none
 | _, _ => none
noncomputable def UT : D → D → Option T
 | .int a, .int b => if b ≠ 0 ∧ b.natAbs < 1073741824 then some (.sh (.int (a.fdiv b))) else none
 | _, _ => none
noncomputable def Z3 : D → D → Option T
 | .int a, .int b => if b ≠ 0 then some (.sh (.int (a.fmod b))) else none
 | _, _ => none
noncomputable def O1 : D → Option T
 | .int a => some (.sh (.int (-a)))
 | _ => none
theorem RB.int {S : Addr → Prop} {h : Heap} {v : Value} {i : Int} (q : RB S h v (.int i)) : ∃ t, v = .int i t := by
 have := q.rv fun _ e => by cases e
 cases this; exact ⟨_, rfl⟩
theorem RB.bool {S : Addr → Prop} {h : Heap} {v : Value} {i : Bool} (q : RB S h v (.bool i)) : v = .bool i := by
 have := q.rv fun _ e => by cases e
 cases this; rfl
theorem RB.str {S : Addr → Prop} {h : Heap} {v : Value} {i : Str} (q : RB S h v (.str i)) : ∃ t, v = .str i t := by
 have := q.rv fun _ e => by cases e
 cases this; exact ⟨_, rfl⟩
theorem RB.none {S : Addr → Prop} {h : Heap} {v : Value} (q : RB S h v .none) : v = .none := by
 have := q.rv fun _ e => by cases e
 cases this; rfl
theorem RB.tup {S : Addr → Prop} {h : Heap} {v : Value} {ds : List D} (q : RB S h v (.tup ds)) : SeqV "tuple" S h v ds := by
 have := q.rv fun _ e => by cases e
 cases this with | tup e hc hd r => exact ⟨_, _, _, _, rfl, e, hc, hd, r⟩
theorem Zh {G : Gd} {cx : Cx} {sc : Scope} {ρ : AEnv} {S : Addr → Prop} {s : Shared} {Q : Value → Shared → Prop} {E : Value → Shared → Prop} {d : D} (out : Out G cx sc true S s (fun S' h' v t => Yp cx S' h' v t) Q E (.ok (.sh d) ρ))
  (rel : Rel G cx sc ρ S s.heap) {v : Value} {tk : Nat} (q : RV S s.heap v d) : Q v { s with toks := tk } := out v s.heap tk S rel q (Ext.refl ..) fun _ => Qq.refl _ _
section
variable {G : Gd}
theorem C8 : Op2 G (binaryOp .Sub) Va := by
 intro cx sc ok ρ S s v w x y t rel rx ry e Q E out
 unfold Va at e; split at e
 ·obtain ⟨_, rfl⟩ := rx.int; obtain ⟨_, rfl⟩ := ry.int; cases e
  exact PySem.P.sub_int (Zh out rel (.int _ _))
 ·cases e
theorem OM {b : Int} (h : small b = true) : Builtin.Int.intBits b ≤ 64 := by
 unfold small at h; simp only [decide_eq_true_eq] at h
 exact intBits_le_64 (by omega) (by omega)
set_option tactic.hygienic true in
theorem Hy : Op2 G (binaryOp .Mult) IE := by
 intro cx sc ok ρ S s v w x y t rel rx ry e Q E out
 unfold IE at e; split at e
 ·obtain ⟨_, rfl⟩ := rx.int; obtain ⟨_, rfl⟩ := ry.int
  split at e
  ·rename_i hs
   cases e
   refine PySem.P.mul_int (Zh out rel (.int _ _)) ?_
   rcases Bool.or_eq_true_iff.mp hs with q | q
   ·exact .of_left (OM q)
   ·exact .of_right (OM q)
  ·cases e
 ·cases e
set_option tactic.hygienic true in
theorem OR : Op2 G (binaryOp .FloorDiv) UT := by
 intro cx sc ok ρ S s v w x y t rel rx ry e Q E out
 unfold UT at e; split at e
 ·obtain ⟨_, rfl⟩ := rx.int; obtain ⟨_, rfl⟩ := ry.int
  split at e
  ·rename_i hs
   cases e
   exact PyProof.Rows.floordiv_int hs.1 (Zh out rel (.int _ _)) (.inl (PyProof.noPylong_small hs.2))
  ·cases e
 ·cases e
set_option tactic.hygienic true in
theorem JV : Op2 G (binaryOp .Mod) Z3 := by
 intro cx sc ok ρ S s v w x y t rel rx ry e Q E out
 unfold Z3 at e; split at e
 ·obtain ⟨_, rfl⟩ := rx.int; obtain ⟨_, rfl⟩ := ry.int
  split at e
  ·rename_i hs
   cases e
   exact PyProof.Rows.mod_int' hs (Zh out rel (.int _ _))
  ·cases e
 ·cases e
theorem Dl : Op1 G (unaryOp .USub) O1 := by
 intro cx sc ok ρ S s v x t rel rx e Q E out
 unfold O1 at e; split at e
 ·obtain ⟨_, rfl⟩ := rx.int; cases e
  exact PySem.P.neg_int (Zh out rel (.int _ _))
 ·cases e
noncomputable def ltI : D → D → Option T
 | .int a, .int b => some (.sh (.bool (decide (a < b))))
 | _, _ => none
noncomputable def leI : D → D → Option T
 | .int a, .int b => some (.sh (.bool (decide (a ≤ b))))
 | _, _ => none
noncomputable def gtI : D → D → Option T
 | .int a, .int b => some (.sh (.bool (decide (b < a))))
 | _, _ => none
theorem VI : Op2 G (compareOp .Lt) ltI := by
 intro cx sc ok ρ S s v w x y t rel rx ry e Q E out
 unfold ltI at e; split at e
 ·obtain ⟨_, rfl⟩ := rx.int; obtain ⟨_, rfl⟩ := ry.int; cases e
  exact PySem.P.lt_int (Zh out rel (.bool _))
 ·cases e
theorem Km : Op2 G (compareOp .LtE) leI := by
 intro cx sc ok ρ S s v w x y t rel rx ry e Q E out
 unfold leI at e; split at e
 ·obtain ⟨_, rfl⟩ := rx.int; obtain ⟨_, rfl⟩ := ry.int; cases e
  exact PySem.P.le_int (Zh out rel (.bool _))
 ·cases e
theorem Hj : Op2 G (compareOp .Gt) gtI := by
 intro cx sc ok ρ S s v w x y t rel rx ry e Q E out
 unfold gtI at e; split at e
 ·obtain ⟨_, rfl⟩ := rx.int; obtain ⟨_, rfl⟩ := ry.int; cases e
  exact PySem.P.gt_int (Zh out rel (.bool _))
 ·cases e
end
mutual
noncomputable def Wy : D → Option PyData
 | .none => some .none
 | .bool b => some (.bool b)
 | .int i => some (.int i)
 | .str x => some (.str x)
 | .tup ds => (Ys ds).map .tuple
 | .list ds => (Ys ds).map .list
 | _ => none
noncomputable def Ys : List D → Option (List PyData)
 | [] => some []
 | d :: ds => match Wy d, Ys ds with
  | some p, some ps => some (p :: ps)
  | _, _ => none
end
theorem Vc {h : Heap} {vs : List Value} {ds : List D} {p : PyData} {k : List PyData → PyData} (r : ∀ {ps : List PyData}, Ys ds = some ps → ∃ as, ReadsAll h vs ps as) (e : (Ys ds).map k = some p) : ∃ ps as, p = k ps ∧ ReadsAll h vs ps as := by
 cases hq : Ys ds with
 | none => rw [hq] at e; cases e
 | some ps =>
  rw [hq] at e; cases e
  obtain ⟨as, q⟩ := r hq
  exact ⟨ps, as, rfl, q⟩
theorem RV.reads {S : Addr → Prop} {h : Heap} {v : Value} {d : D} (q : RV S h v d) : ∀ {p : PyData}, Wy d = some p → ∃ as, Reads h v p as :=
 RV.rec (motive_1 := fun v d _ => ∀ {p : PyData}, Wy d = some p → ∃ as, Reads h v p as) (motive_2 := fun vs ds _ => ∀ {ps : List PyData}, Ys ds = some ps → ∃ as, ReadsAll h vs ps as)
  (fun e => by cases e; exact ⟨_, .none⟩) (fun b _ e => by cases e; exact ⟨_, .bool b⟩) (fun i t _ e => by cases e; exact ⟨_, .int i t⟩) (fun x t _ e => by cases e; exact ⟨_, .str x t⟩)
  (fun a b c _ r _ e => by obtain ⟨ps, as, rfl, q⟩ := Vc (k := .tuple) r e; exact ⟨as, .tuple a b c q⟩)
  (fun _ a b c _ r _ e => by obtain ⟨ps, as, rfl, q⟩ := Vc (k := .list) r e; exact ⟨_, .list a b.1 c q⟩)
  (fun _ _ e => by cases e) (fun _ _ _ _ _ _ e => by cases e) (fun _ _ _ e => by cases e) (fun _ _ _ _ _ _ _ _ e => by cases e)
  (fun e => by cases e; exact ⟨_, .nil⟩)
  (fun {v d vs ds} _ _ a b _ e => by
   have e : (match Wy d, Ys ds with | some p, some ps => some (p :: ps) | _, _ => Option.none) = some _ := e
   cases hp : Wy d with
   | none => rw [hp] at e; cases e
   | some p =>
    cases hq : Ys ds with
    | none => rw [hp, hq] at e; cases e
    | some ps =>
     rw [hp, hq] at e; cases e
     obtain ⟨as, q'⟩ := a hp
     obtain ⟨bs, r'⟩ := b hq
     exact ⟨_, .cons q' r'⟩) q
noncomputable def eqD (x y : D) : Option Bool := match Wy x, Wy y with
 | some p, some q => if SeqAt.shaped p && SeqAt.shaped q then some (PyData.eqv p q) else none
 | _, _ => none
noncomputable def eqI (x y : D) : Option T := (eqD x y).map fun b => .sh (.bool b)
noncomputable def neI (x y : D) : Option T := (eqD x y).map fun b => .sh (.bool !b)
set_option tactic.hygienic true in
theorem VB {S : Addr → Prop} {h : Heap} {v w : Value} {x y : D} {b : Bool} (rx : RB S h v x) (ry : RB S h w y) (e : eqD x y = some b) :
  ∃ p q as bs, Reads h v p as ∧ Reads h w q bs ∧ SeqAt.shaped p = true ∧ SeqAt.shaped q = true ∧ b = PyData.eqv p q := by
 unfold eqD at e
 split at e
 ·rename_i p q hp hq
  split at e
  ·rename_i hs
   obtain ⟨h1, h2⟩ := Bool.and_eq_true_iff.mp hs
   obtain ⟨as, ra⟩ := RV.reads rx.any hp
   obtain ⟨bs, rb⟩ := RV.reads ry.any hq
   exact ⟨p, q, as, bs, ra, rb, h1, h2, (Option.some.inj e).symm⟩
  ·cases e
 ·cases e
theorem WU {G : Gd} : Op2 G (compareOp .Eq) eqI := by
 intro cx sc ok ρ S s v w x y t rel rx ry e Q E out
 unfold eqI at e
 obtain ⟨b, hb, rfl⟩ := Option.map_eq_some_iff.mp e
 obtain ⟨p, q, as, bs, ra, rb, h1, h2, rfl⟩ := VB rx ry hb
 exact PyProof.Rows.eq_dataH ra rb h1 h2 (by have := ok.room.2; unfold cLine; lia) (Zh out rel (tk := s.toks) (.bool _))
theorem Oi {G : Gd} : Op2 G (compareOp .NotEq) neI := by
 intro cx sc ok ρ S s v w x y t rel rx ry e Q E out
 unfold neI at e
 obtain ⟨b, hb, rfl⟩ := Option.map_eq_some_iff.mp e
 obtain ⟨p, q, as, bs, ra, rb, h1, h2, rfl⟩ := VB rx ry hb
 exact PyProof.Rows.ne_dataH ra rb h1 h2 (by have := ok.room.2; unfold cLine; lia) (Zh out rel (tk := s.toks) (.bool _))
noncomputable def isD (x : D) : D → Option Bool
 | .none => (match x with | .none => some true | .glob _ => none | _ => some false)
 | .bool c => (match x with | .bool b => some (b == c) | .glob _ => none | _ => some false)
 | _ => none
noncomputable def isI (x y : D) : Option T := (isD x y).map fun b => .sh (.bool b)
set_option tactic.hygienic true in
theorem FY {S : Addr → Prop} {h : Heap} {v w : Value} {x y : D} {b : Bool} (rx : RB S h v x) (ry : RB S h w y) (e : isD x y = some b) : isSame v w = pure b := by
 have rx := rx.any
 unfold isD at e
 split at e
 ·rw [ry.none]
  cases rx <;> first | (cases e; rfl) | (cases e; done)
 ·rename_i c
  rw [ry.bool]
  cases rx with
  | bool b' => simp only [Option.some.injEq] at e; subst e; cases b' <;> cases c <;> rfl
  | _ => first | (cases e; rfl) | (cases e; done)
 ·cases e
theorem Iz {G : Gd} : Op2 G (compareOp .Is) isI := by
 intro cx sc ok ρ S s v w x y t rel rx ry e Q E out
 unfold isI at e
 obtain ⟨b, hb, rfl⟩ := Option.map_eq_some_iff.mp e
 show wpAny G.M cx.A (do return .bool (← isSame v w)) Q E s
 rw [FY rx ry hb]
 exact wpAny_bind (wpAny_pure (wpAny_pure (Zh out rel (tk := s.toks) (.bool _))))
end Mine
end

section
namespace Mine
open PySem
section
variable {G : Gd} {cx : Cx} {sc : Scope} {ρ : AEnv} {S : Addr → Prop} {s : Shared}
theorem Rel.push (r : Rel G cx sc ρ S s.heap) (o : Obj) : Rel G cx sc ρ S (s.heap.push o) := r.keeps fun _ _ e => Heap.get?_push_of_some _ e
theorem QN {S : Addr → Prop} {h : Heap} (o : Obj) : Ext S h S (h.push o) := Ext.of_keeps fun _ _ e => Heap.get?_push_of_some _ e
theorem Xi {h : Heap} (o : Obj) : Kp h (h.push o) := Kp.of_keeps fun _ _ e => Heap.get?_push_of_some _ e
theorem O0 {vs : List Value} {ds : List D} (r : Rel G cx sc ρ S s.heap) (q : RVs S s.heap vs ds) (hl : ds.length ≤ 1000000) :
  Qk G cx sc true (newTuple vs) S s (fun S' h' v t => Yp cx S' h' v t) (.ok (.sh (.tup ds)) ρ) := by
 intro Q E out
 refine wpAny_newObj_type (out _ _ s.toks S (r.push _) ?_ (QN _) fun _ => r.same (Xi _)) ?_
 ·exact .tup (Heap.get?_push_size _ rfl) rfl rfl (by simpa using q.ext (QN _))
 ·show vs.toArray.size ≤ sizeLine
  rw [List.size_toArray, q.length, sizeLine_eq]; exact omB hl
theorem XQ {h' : Heap} {a : Addr} {vs : Array Value} {n : Nat} {ds : List D} (r : Rel G cx sc ρ S s.heap) (k : Kp s.heap h') (e : s.heap.get? a = none) (e' : h'.get? a = some { cls := .type "list", data := .seq vs n }) (q : RVs S h' vs.toList ds) :
  Fresh cx S h' (.ref a) (.list ds) := by
 refine ⟨a, rfl, fun q => ?_, ⟨vs, n, e', q⟩, r.keep.none e, fun x hd q => ?_⟩
 ·obtain ⟨o, e₁⟩ := r.sdom _ q; rw [e] at e₁; cases e₁
 ·obtain ⟨o, e₁⟩ := r.live x _ hd (Var.of_kp k r.ns r.cells q); rw [e] at e₁; cases e₁
theorem Bg {vs : List Value} {ds : List D} (r : Rel G cx sc ρ S s.heap) (q : RVs S s.heap vs ds) (hl : ds.length ≤ 1000000) :
  Qk G cx sc true (newList vs) S s (fun S' h' v t => Yp cx S' h' v t) (.ok (.ow true (.list ds)) ρ) := by
 intro Q E out
 refine wpAny_newObj_type (out _ _ s.toks S (r.push _) ?_ (QN _) fun _ => r.same (Xi _)) ?_
 ·exact XQ r (Xi _) (Heap.get?_none_of_le (Nat.le_refl _)) (Heap.get?_push_size _ rfl) (by simpa using q.ext (QN _))
 ·show vs.toArray.size ≤ sizeLine
  rw [List.size_toArray, q.length, sizeLine_eq]; exact omB hl
end
noncomputable def OE (G : Gd) (k : Nat) (sc : Scope) (es : List Expr) (f : AEnv → Res (List D)) : Prop :=
 ∀ pos cx, CxOk G cx sc k → ∀ ρ S s, Rel G cx sc ρ S s.heap → Qk G cx sc true (spliced (backTo pos (starEach es cx.env))) S s (fun S' h' vs ds => RVs S' h' vs ds) (f ρ)
noncomputable def Zg : AEnv → Res (List D) := fun ρ => .ok [] ρ
noncomputable def QH (f : AEnv → Res T) (g : AEnv → Res (List D)) : AEnv → Res (List D) := fun ρ => (f ρ).bind fun t ρ₁ => (g ρ₁).bind fun ds ρ₂ => .ok (t.val :: ds) ρ₂
noncomputable def QS : Expr → Bool
 | .Starred .. => false
 | _ => true
theorem Ym {e : Expr} {rest : List Expr} {env : Env} (h : QS e = true) : starEach (e :: rest) env = (false, eval e env) :: starEach rest env := by
 cases e <;> first | rfl | cases h
section
variable {G : Gd} {k : Nat} {sc : Scope}
theorem Q0 : OE G k sc [] Zg := fun pos cx ok ρ S s r => Qk.pure r .nil
theorem Yj {pos : Pos} {e : Expr} {rest : List Expr} {env : Env} (h : QS e = true) : spliced (backTo pos (starEach (e :: rest) env)) = (do
  let v ← eval e env
  let here ← (pure [v] : Sem (List Value))
  return here ++ (← holding here (spliced (backTo pos (starEach rest env))))) := by
 rw [Ym h]; rfl
theorem Qk.shared {cx : Cx} {S : Addr → Prop} {s : Shared} {m : Sem Value} {r : Res T} (h : Qk G cx sc true m S s (fun S' h' v t => Yp cx S' h' v t) r) :
  Qk G cx sc true m S s (fun S' h' v d => RV S' h' v d) (r.bind fun t ρ => .ok t.val ρ) := by
 intro Q E out
 refine h Q E ?_
 cases r with
 | stuck => exact out
 | exc C ρ => exact out
 | ok t ρ =>
  intro v h' tk S' rel j x vs
  obtain ⟨S₂, rel₂, rv, x₂⟩ := rel.drop j
  exact out v h' tk S₂ rel₂ rv (x.trans x₂) vs
theorem Gp {α β γ : Type} (r : Res α) (f : α → β) (g : β → AEnv → Res γ) : (r.bind fun a ρ => .ok (f a) ρ).bind g = r.bind fun a ρ => g (f a) ρ := by
 cases r <;> rfl
theorem CS {e : Expr} {rest : List Expr} {f : AEnv → Res T} {g : AEnv → Res (List D)} (he : Sim G k sc e f) (hr : OE G k sc rest g) (hs : QS e = true) : OE G k sc (e :: rest) (QH f g) := by
 intro pos cx ok ρ S s r
 rw [Yj hs]
 unfold QH
 rw [← Gp (f ρ) T.val (fun d ρ₁ => (g ρ₁).bind fun ds ρ₂ => .ok (d :: ds) ρ₂)]
 refine Qk.bind (he cx ok ρ S s r).shared fun d ρ₁ v h₁ t₁ S₁ _ r₁ j₁ x₁ v₁ => ?_
 intro Q E out
 refine wpAny_bind (wpAny_pure ?_)
 refine (Qk.bind (J' := fun S' h' vs ds => RVs S' h' vs ds) (Qk.holding (hr pos cx ok ρ₁ S₁ { s with heap := h₁, toks := t₁ } r₁)) fun ds ρ₂ vs h₂ t₂ S₂ _ r₂ j₂ x₂ v₂ => ?_) Q E out
 exact Qk.pure r₂ (.cons (j₁.ext x₂) j₂)
end
noncomputable def YL (f : AEnv → Res (List D)) : AEnv → Res T := fun ρ => (f ρ).bind fun ds ρ₁ => if ds.length ≤ 1000000 then .ok (.sh (.tup ds)) ρ₁ else .stuck
noncomputable def Uq (f : AEnv → Res (List D)) : AEnv → Res T := fun ρ => (f ρ).bind fun ds ρ₁ => if ds.length ≤ 1000000 then .ok (.ow true (.list ds)) ρ₁ else .stuck
section
variable {G : Gd} {k : Nat} {sc : Scope}
set_option tactic.hygienic true in
theorem Z6 {es : List Expr} {n : Nat} {pos : Pos} {f : AEnv → Res (List D)} (h : OE G k sc es f) : Sim G k sc (.Tuple es n pos) (YL f) := by
 intro cx ok ρ S s r
 show Qk G cx sc true (do standAt pos; newTuple (← spliced (backTo pos (starEach es cx.env)))) S s _ _
 refine Qk.standAt (Qk.bind (h pos cx ok ρ S s r) fun ds ρ₁ vs h₁ t₁ S₁ _ r₁ j₁ x₁ v₁ => ?_)
 split
 ·rename_i hl; exact O0 (s := { s with heap := h₁, toks := t₁ }) r₁ j₁ hl
 ·exact Qk.stuck
set_option tactic.hygienic true in
theorem Zj {es : List Expr} {pos : Pos} {f : AEnv → Res (List D)} (h : OE G k sc es f) : Sim G k sc (.List es pos) (Uq f) := by
 intro cx ok ρ S s r
 show Qk G cx sc true (do standAt pos; newList (← spliced (backTo pos (starEach es cx.env)))) S s _ _
 refine Qk.standAt (Qk.bind (h pos cx ok ρ S s r) fun ds ρ₁ vs h₁ t₁ S₁ _ r₁ j₁ x₁ v₁ => ?_)
 split
 ·rename_i hl; exact Bg (s := { s with heap := h₁, toks := t₁ }) r₁ j₁ hl
 ·exact Qk.stuck
end
noncomputable def Ju (G : Gd) (k : Nat) (sc : Scope) (e : Expr) (f : AEnv → Res Bool) : Prop :=
 ∀ cx, CxOk G cx sc k → ∀ ρ S s, Rel G cx sc ρ S s.heap → Qk G cx sc true (isTrue e cx.env (eval e cx.env)) S s (fun _ _ a b => a = b) (f ρ)
noncomputable def asB : D → Option Bool
 | .bool b => some b
 | _ => none
theorem KR {d : D} {b : Bool} (h : asB d = some b) : d = .bool b := by cases d <;> first | exact nn h | (cases h; rfl)
noncomputable def KU : T → Option Bool
 | .sh d => asB d
 | .ow _ _ => none
theorem Vi {t : T} {b : Bool} (h : KU t = some b) : t = .sh (.bool b) := by
 cases t with
 | sh d => rw [KR h]
 | ow m d => exact nn h
noncomputable def Q5 (f : AEnv → Res Bv) : AEnv → Res Bool := fun ρ => (f ρ).bind fun a ρ₁ => ob (a.get ρ₁) fun x => ob (asB x) fun b => .ok b ρ₁
noncomputable def ZH (f : AEnv → Res Bool) : AEnv → Res Bool := fun ρ => (f ρ).bind fun b ρ₁ => .ok (!b) ρ₁
noncomputable def Yk : AEnv → Res Bool := fun ρ => .ok true ρ
noncomputable def Xm : AEnv → Res Bool := fun ρ => .ok false ρ
noncomputable def JY (f g : AEnv → Res Bool) : AEnv → Res Bool := fun ρ => (f ρ).bind fun b ρ₁ => if b then g ρ₁ else .ok false ρ₁
noncomputable def eOr (f g : AEnv → Res Bool) : AEnv → Res Bool := fun ρ => (f ρ).bind fun b ρ₁ => if b then .ok true ρ₁ else g ρ₁
noncomputable def QD (F : D → D → Option T) (f g : AEnv → Res Bv) : AEnv → Res Bool := fun ρ => (f ρ).bind fun a ρ₁ => (g ρ₁).bind fun b ρ₂ => ob (a.get ρ₂) fun x => ob (b.get ρ₂) fun y => ob (F x y) fun t => ob (KU t) fun b => .ok b ρ₂
section
variable {G : Gd} {k : Nat} {sc : Scope}
theorem B9 {e : Expr} {f : AEnv → Res Bv} (h : Qh G k sc e f) (he : ∀ env whole, isTrue e env whole = (do let v ← whole; standAt e.pos; holding [v] (truthy v))) : Ju G k sc e (Q5 f) := by
 intro cx ok ρ S s r
 rw [he]
 refine Qk.bind (h cx ok ρ S s r) fun a ρ₁ va h₁ t₁ S₁ _ r₁ ja x₁ v₁ => ?_
 refine Qk.standAt (Qk.holding (Qk.ob fun x hx => Qk.ob fun b hb => ?_))
 obtain rfl := KR hb
 obtain rfl := (ZT.rb ja r₁ hx).bool
 exact fun Q E out => wpAny_truthy_bool (out _ h₁ t₁ S₁ r₁ rfl (Ext.refl ..) fun _ => Qq.refl _ _)
theorem Xb {x : Expr} {pos : Pos} {f : AEnv → Res Bool} (h : Ju G k sc x f) : Ju G k sc (.UnaryOp .Not x pos) (ZH f) := by
 intro cx ok ρ S s r
 show Qk G cx sc true (do return !(← isTrue x cx.env (eval x cx.env))) S s _ _
 refine Qk.bind (h cx ok ρ S s r) fun b ρ₁ a h₁ t₁ S₁ _ r₁ j x₁ v₁ => ?_
 exact Qk.pure r₁ (by rw [j])
noncomputable def K7 (G : Gd) (k : Nat) (sc : Scope) (op : BoolOp) (es : List Expr) (f : AEnv → Res Bool) : Prop :=
 ∀ cx, CxOk G cx sc k → ∀ ρ S s, Rel G cx sc ρ S s.heap → Qk G cx sc true (allTrue op es cx.env) S s (fun _ _ a b => a = b) (f ρ)
theorem Wb : K7 G k sc .And [] Yk := fun _ _ _ _ _ r => Qk.pure r rfl
theorem QU : K7 G k sc .Or [] Xm := fun _ _ _ _ _ r => Qk.pure r rfl
theorem UJ {x : Expr} {rest : List Expr} {f g : AEnv → Res Bool} (hx : Ju G k sc x f) (hr : K7 G k sc .And rest g) : K7 G k sc .And (x :: rest) (JY f g) := by
 intro cx ok ρ S s r
 show Qk G cx sc true (do match BoolOp.And, ← isTrue x cx.env (eval x cx.env) with | .And, false => pure false | .Or, true => pure true | _, _ => allTrue .And rest cx.env) S s _ _
 refine Qk.bind (hx cx ok ρ S s r) fun b ρ₁ a h₁ t₁ S₁ _ r₁ j x₁ v₁ => ?_
 subst j
 cases a
 ·exact Qk.pure r₁ rfl
 ·exact hr cx ok ρ₁ S₁ _ r₁
theorem QL {x : Expr} {rest : List Expr} {f g : AEnv → Res Bool} (hx : Ju G k sc x f) (hr : K7 G k sc .Or rest g) : K7 G k sc .Or (x :: rest) (eOr f g) := by
 intro cx ok ρ S s r
 show Qk G cx sc true (do match BoolOp.Or, ← isTrue x cx.env (eval x cx.env) with | .And, false => pure false | .Or, true => pure true | _, _ => allTrue .Or rest cx.env) S s _ _
 refine Qk.bind (hx cx ok ρ S s r) fun b ρ₁ a h₁ t₁ S₁ _ r₁ j x₁ v₁ => ?_
 subst j
 cases a
 ·exact hr cx ok ρ₁ S₁ _ r₁
 ·exact Qk.pure r₁ rfl
theorem QT {op : BoolOp} {es : List Expr} {pos : Pos} {f : AEnv → Res Bool} (h : K7 G k sc op es f) : Ju G k sc (.BoolOp op es pos) f := by
 intro cx ok ρ S s r
 rw [arm_isTrue_BoolOp]; exact h cx ok ρ S s r
theorem Wn {cx : Cx} {ρ : AEnv} {S : Addr → Prop} {s : Shared} {m : Sem Value} {t : T} (h : Qk G cx sc true m S s (fun S' h' v t => Yp cx S' h' v t) (.ok t ρ)) {vs : Value → List Value} :
  Qk G cx sc true (do let c ← m; holding (vs c) (truthy c)) S s (fun _ _ a b => a = b) (ob (KU t) fun b => .ok b ρ) := by
 intro Q E out
 obtain ⟨b, hb, out⟩ := out.ob
 obtain rfl := Vi hb
 refine wpAny_bind (h _ _ ?_)
 intro v h' tk S' rel j x v'
 cases j with
 | bool b => exact wpAny_holding (wpAny_truthy_bool (out _ h' tk S' rel rfl x v'))
theorem OX {l r : Expr} {op : CmpOp} {pos : Pos} {f g : AEnv → Res Bv} {F : D → D → Option T} (hl : Qh G k sc l f) (hr : Qh G k sc r g) (hop : Op2 G (compareOp op) F)
  (hm : behindInMarks op r = false) : Ju G k sc (.Compare l [op] [r] pos) (QD F f g) := by
 intro cx ok ρ S s rel
 rw [isTrue_Compare1, markedBehindIn_of_false hm]
 refine WF (K := fun x y ρ₂ => ob (F x y) fun t => ob (KU t) fun b => .ok b ρ₂) hl hr ok rel fun ρ' S' h' tk v w x y rel' rx ry => ?_
 exact Qk.standAt (Qk.ob fun t ht => Wn (vs := fun c => [c]) (Qk.operate (vs := [v, w]) (hop cx sc (ok.mono (Nat.zero_le _)) ρ' S' { s with heap := h', toks := tk } v w x y t rel' rx ry ht)))
end
noncomputable def YK (F F' : D → D → Option T) (f g h : AEnv → Res Bv) : AEnv → Res Bool := fun ρ => (f ρ).bind fun a ρ₁ => (g ρ₁).bind fun b ρ₂ => ob (a.get ρ₂) fun x => ob (b.get ρ₂) fun y => ob (F x y) fun t => ob (KU t) fun v => if v then (h ρ₂).bind fun c ρ₃ => ob (b.get ρ₃) fun y' => ob (c.get ρ₃) fun z => ob (F' y' z) fun t' => ob (KU t') fun w => .ok w ρ₃ else .ok false ρ₂
theorem V8 {G : Gd} {k : Nat} {sc : Scope} {r : Expr} {op : CmpOp} {pos : Pos} {h : AEnv → Res Bv} {F : D → D → Option T} {cx : Cx} {ρ : AEnv} {S : Addr → Prop} {s : Shared} {vb : Value} {b : Bv} (hr : Qh G k sc r h) (hop : Op2 G (compareOp op) F) (ok : CxOk G cx sc k) (rel : Rel G cx sc ρ S s.heap) (jb : ZT cx sc S s.heap vb b) :
  Qk G cx sc true (do let rv ← holding [vb] (eval r cx.env); standAt pos; let c ← operate [vb, rv] (compareOp op vb rv); holding [c] (truthy c)) S s (fun _ _ a b => a = b)
   ((h ρ).bind fun c ρ₃ => ob (b.get ρ₃) fun y' => ob (c.get ρ₃) fun z => ob (F y' z) fun t' => ob (KU t') fun w => .ok w ρ₃) := by
 refine Qk.bind (Qk.holding (hr cx ok ρ S s rel)) fun c' ρ₄ vc h₄ t₄ S₄ _ rel₄ jc x₄ v₄ => ?_
 exact Qk.standAt (Qk.ob fun y' hy' => Qk.ob fun z hz => Qk.ob fun t' ht => Wn (vs := fun c => [c]) (Qk.operate (vs := [vb, vc]) (hop cx sc (ok.mono (Nat.zero_le _)) ρ₄ S₄ { s with heap := h₄, toks := t₄ } vb vc y' z t' rel₄ (ZT.rb (ZT.ext jb x₄ (v₄ rfl)) rel₄ hy') (ZT.rb jc rel₄ hz) ht)))
theorem Dj {G : Gd} {k : Nat} {sc : Scope} {l m r : Expr} {op op' : CmpOp} {pos : Pos} {f g h : AEnv → Res Bv} {F F' : D → D → Option T} (hl : Qh G k sc l f) (hm : Qh G k sc m g) (hr : Qh G k sc r h) (hop : Op2 G (compareOp op) F) (hop' : Op2 G (compareOp op') F')
  (hb : behindInMarks op' r = false) : Ju G k sc (.Compare l [op, op'] [m, r] pos) (YK F F' f g h) := by
 intro cx ok ρ S s rel
 show Qk G cx sc true (do testChain pos (← eval l cx.env) [op, op'] [eval m cx.env, markedBehindIn op' r (eval r cx.env)]) S s _ _
 rw [markedBehindIn_of_false hb]
 show Qk G cx sc true (do
  let a ← eval l cx.env
  let rv ← holding [a] (eval m cx.env)
  standAt pos
  let c ← holding [a, rv] (compareOp op a rv)
  release [a, rv] [c]
  if ← holding [c, rv] (truthy c) then testChain pos rv [op'] [eval r cx.env] else pure false) S s _ _
 unfold YK
 refine Qk.bind (hl cx ok ρ S s rel) fun a ρ₁ va h₁ t₁ S₁ _ rel₁ ja x₁ v₁ => ?_
 refine Qk.bind (Qk.holding (hm cx ok ρ₁ S₁ { s with heap := h₁, toks := t₁ } rel₁)) fun b ρ₂ vb h₂ t₂ S₂ _ rel₂ jb x₂ v₂ => ?_
 have ja₂ : ZT cx sc S₂ h₂ va a := ZT.ext ja x₂ (v₂ rfl)
 refine Qk.standAt (Qk.ob fun x hx => Qk.ob fun y hy => Qk.ob fun t ht => ?_)
 intro Q E out
 obtain ⟨b', hb', out⟩ := out.ob
 obtain rfl := Vi hb'
 refine wpAny_bind (wpAny_holding (hop cx sc (ok.mono (Nat.zero_le _)) ρ₂ S₂ { s with heap := h₂, toks := t₂ } va vb x y _ rel₂ (ja₂.rb rel₂ hx) (ZT.rb jb rel₂ hy) ht _ _ ?_))
 intro c h₃ t₃ S₃ rel₃ j₃ x₃ v₃
 refine wpAny_bind (wpAny_release (wpAny_bind (wpAny_holding ?_)))
 cases j₃
 refine wpAny_truthy_bool ?_
 cases b' with
 | false => exact wpAny_pure (out _ h₃ t₃ S₃ rel₃ rfl x₃ v₃)
 | true => exact V8 (s := { s with heap := h₃, toks := t₃ }) hr hop' ok rel₃ (ZT.ext jb x₃ (v₃ rfl)) Q E (out.lift x₃ v₃)
structure KpE (B h : Heap) (e : Addr) (g h' : Heap) : Prop where
 keep : ∀ b o, g.get? b = some o → b ≠ e → (o.cls ≠ .type "traceback" ∨ ∃ o₀, h.get? b = some o₀) → Kept h' b o
 base : ∀ b o, B.get? b = some o → g.get? b = some o → b ≠ e → (∃ o₀, h.get? b = some o₀) → h'.get? b = some o
 dom : ∀ b o, g.get? b = some o → ∃ o', h'.get? b = some o'
 kd : ∀ b o es n, g.get? b = some o → o.data = .dict es n → ∃ sl, h'.get? b = some { o with slots := sl }
theorem KpE.trans {B h : Heap} {e : Addr} {g₁ g₂ g₃ : Heap} (x : KpE B h e g₁ g₂) (y : KpE B h e g₂ g₃) : KpE B h e g₁ g₃ where
 keep := fun b o eb hb q => by
  obtain ⟨sl, e₁, k₁⟩ := x.keep b o eb hb q
  obtain ⟨sl', e₂, k₂⟩ := y.keep b _ e₁ hb q
  exact ⟨sl', e₂, fun hn => (k₂ hn).trans (k₁ hn)⟩
 base := fun b o eb eg hb q => y.base b o eb (x.base b o eb eg hb q) hb q
 dom := fun b o eb => let ⟨o', e'⟩ := x.dom b o eb; y.dom b o' e'
 kd := fun b o es n eb hd => by
  obtain ⟨sl, e₁⟩ := x.kd b o es n eb hd
  obtain ⟨sl', e₂⟩ := y.kd b _ es n e₁ hd
  exact ⟨sl', e₂⟩
theorem KpE.refl (B h : Heap) (e : Addr) (g : Heap) : KpE B h e g g := ⟨fun _ o eb _ _ => ⟨o.slots, eb, fun _ => rfl⟩, fun _ _ _ e _ _ => e, fun _ o eb => ⟨o, eb⟩, fun _ o _ _ eb _ => ⟨o.slots, eb⟩⟩
inductive FlyT (h h' : Heap) (e C : Addr) : Prop
 | mk (n : h.get? e = none) (oe : Obj) (vs : Array Value) (T : Addr) (oT : Obj) (ts : Array Value) (a : h'.get? e = some oe) (b : oe.cls = .ref C) (b' : oe.dict = none) (c : oe.data = .fields vs) (d : vs[2]? = some .none)
  (k1 : vs[1]? = some (.ref T)) (k2 : T ≠ e) (k3 : h.get? T = none) (k4 : h'.get? T = some oT) (k5 : oT.cls = .type "traceback") (k6 : oT.data = .fields ts) (k7 : 3 < ts.size) : FlyT h h' e C
theorem FlyT.fly {h h' : Heap} {e C : Addr} (x : FlyT h h' e C) : Fly h h' e C := by
 obtain ⟨n, oe, vs, T, oT, ts, a, b, b', c, d, k1, k2, k3, k4, k5, k6, k7⟩ := x
 exact ⟨n, oe, vs, a, b, b', c, d, .inr ⟨T, oT, ts, k1, k2, k3, k4, k5, k6, k7⟩⟩
theorem Oa (f : Array Value → Array Value) (o : Obj) : (Obj.mapFields f o).dict = o.dict := by
 obtain ⟨c, d, dt, sl⟩ := o
 cases dt <;> rfl
theorem HK {vs : Array Value} {x : Value} (h : vs[2]? = some .none) : (vs.setIfInBounds 1 x)[2]? = some .none := by
 rw [Array.getElem?_setIfInBounds_ne (by decide)]; exact h
section
variable {M : Model} {A : Around} {E : Value → Shared → Prop} {s : Shared} {B h : Heap} {fs : List Env} {env : Env} {e C : Addr}
theorem V4 {env env' : Env} (h : env.frame = env'.frame) : frameOf env = frameOf env' := by unfold frameOf; rw [h]
theorem FF.notFrame (ff : FF B s.heap fs) {b : Addr} {o : Obj} (eb : s.heap.get? b = some o) (hn : Yn o) : b ∉ fs.filterMap (·.frame) := fun hm => by
 obtain ⟨env, he, hf⟩ := List.mem_filterMap.mp hm
 obtain ⟨_, L, o', h1, _, h3, es, n, h4⟩ := ff env he
 rw [h1] at hf; cases hf
 rw [eb] at h3; cases h3
 exact hn es n h4
theorem BK {L : Addr} {oe : Obj} {vs : Array Value} {head : Value} {hadNext : Bool} {Q : Unit → Shared → Prop} (hfr : A.frames = some fs) (ff : FF B s.heap fs) (top : ∃ env₀ outer, fs = env₀ :: outer ∧ env.frame = env₀.frame) (hf : env.frame = some L)
  (hne : h.get? e = none) (dom : ∀ b o, h.get? b = some o → ∃ o', s.heap.get? b = some o') (he : s.heap.get? e = some oe) (hc : oe.cls = .ref C) (hdn : oe.dict = none) (hd : oe.data = .fields vs) (hsz : 1 < vs.size) (h2 : vs[2]? = some .none)
  (hQ : ∀ h', KpE B h e s.heap h' → FlyT h h' e C → Q () { s with heap := h' }) :
  wpAny M A (do let a ← frameOf env; let pl ← entryPlaceOf L hadNext; let b ← EntryCells.newEntry head a .none (rawInt L) .none pl; setField (.ref e) 1 b) Q E s := by
 obtain ⟨env₀, outer, rfl, hee⟩ := top
 rw [V4 hee]
 have hene : e ∉ (env₀ :: outer).filterMap (·.frame) := ff.notFrame he (.fields hd)
 refine wpAny_bind (wpAny_frameOf_fun (base := B) hfr ff.fun (hee.symm.trans hf) fun h₁ hs₁ => ?_)
 refine wpAny_bind (wpAny_entryPlaceOf fun pl hpl => ?_)
 unfold EntryCells.newEntry newFields
 refine wpAny_bind (wpAny_newObj_type ?_ (hpl.sizeOk5 _ _ _ _ _))
 have he₁ : h₁.get? e = some oe := (hs₁.2.1 e hene).trans he
 have he₂ := Heap.get?_push_of_some (h := h₁) { cls := .type "traceback", dict := none, data := .fields ([head, .ref L, .none, rawInt L, .none] ++ (if pl.isEmpty then List.replicate 6 Value.none else pl)).toArray } he₁
 refine wpAny_setField he₂ hd hsz (hQ _ ?_ ?_)
 ·have keep : ∀ b o, b ≠ e → h₁.get? b = some o → ((h₁.push { cls := .type "traceback", dict := none, data := .fields ([head, .ref L, .none, rawInt L, .none] ++ (if pl.isEmpty then List.replicate 6 Value.none else pl)).toArray }).update e (Obj.mapFields (·.setIfInBounds 1 (Value.ref h₁.objs.size)))).get? b = some o := fun b o hbe hb => by
   rw [Heap.get?_update_other _ _ (Ne.symm hbe)]
   exact Heap.get?_push_of_some _ hb
  refine ⟨fun b o eb hb _ => ?_, fun b o eB eb hb _ => ?_, fun b o eb => ?_, fun b o es n eb hbd => ?_⟩
  rotate_right
  ·have hb : b ≠ e := by rintro rfl; rw [he] at eb; cases eb; rw [hd] at hbd; cases hbd
   obtain ⟨sl, e₁⟩ := hs₁.2.2 b o eb
   exact ⟨sl, keep b _ hb e₁⟩
  ·obtain ⟨sl, e₁⟩ := hs₁.2.2 b o eb
   refine ⟨sl, keep b _ hb e₁, fun hn => ?_⟩
   have := hs₁.2.1 b (ff.notFrame eb hn)
   rw [eb, e₁] at this
   injection this with this
   have := congrArg Obj.slots this
   exact this
  ·refine keep b o hb ((hs₁.2.1 b fun hm => ?_).trans eb)
   obtain ⟨env', he', hf'⟩ := List.mem_filterMap.mp hm
   obtain ⟨_, L', o', h1', h2', _⟩ := ff env' he'
   rw [h1'] at hf'; cases hf'
   rw [h2'] at eB; cases eB
  ·by_cases hb : b = e
   ·subst hb; exact ⟨_, Heap.get?_update_self _ he₂ (Obj.isFreed_of_fields (Obj.data_mapFields hd _))⟩
   ·obtain ⟨sl, e₁⟩ := hs₁.2.2 b o eb
    exact ⟨_, keep b _ hb e₁⟩
 ·have hTe : h₁.objs.size ≠ e := Nat.ne_of_gt (Heap.lt_size he₁)
  refine ⟨hne, _, _, h₁.objs.size, _, _, Heap.get?_update_self _ he₂ (Obj.isFreed_of_fields (Obj.data_mapFields hd _)), (Obj.cls_mapFields _ _).trans hc, (Oa _ _).trans hdn, Obj.data_mapFields hd _, HK h2, by simp [hsz], hTe, ?_, (Heap.get?_update_other _ _ (Ne.symm hTe)).trans (Heap.get?_push_size h₁ rfl), rfl, rfl, ?_⟩
  ·cases q : h.get? h₁.objs.size with
   | none => rfl
   | some o =>
    obtain ⟨o', e'⟩ := dom _ _ q
    obtain ⟨sl, e₁⟩ := hs₁.2.2 _ o' e'
    exact absurd (Heap.lt_size e₁) (Nat.lt_irrefl _)
  ·simp only [List.size_toArray, List.length_append, List.length_cons, List.length_nil]; lia
theorem Vk {g : Heap} {T : Addr} {f : Obj → Obj} {oT : Obj} {ts : Array Value} (hT : g.get? T = some oT) (hc : oT.cls = .type "traceback") (hd : oT.data = .fields ts) (hTn : h.get? T = none) (hfr : (f oT).isFreed = false) : KpE B h e g (g.update T f) := by
 have ne : ∀ b o, g.get? b = some o → (o.cls ≠ .type "traceback" ∨ ∃ o₀, h.get? b = some o₀) → T ≠ b := fun b o eb q hb => by
  subst hb
  rcases q with q | ⟨o₀, q⟩
  ·rw [hT] at eb; cases eb; exact q hc
  ·rw [hTn] at q; cases q
 refine ⟨fun b o eb _ q => ⟨o.slots, (Heap.get?_update_other _ _ (ne b o eb q)).trans eb, fun _ => rfl⟩, fun b o _ eb _ q => (Heap.get?_update_other _ _ (ne b o eb (.inr q))).trans eb, fun b o eb => ?_, fun b o es n eb hbd => ⟨o.slots, (Heap.get?_update_other _ _ (by rintro rfl; rw [hT] at eb; cases eb; rw [hd] at hbd; cases hbd)).trans eb⟩⟩
 by_cases hb : T = b
 ·subst hb; rw [hT] at eb; cases eb; exact ⟨_, Heap.get?_update_self _ hT hfr⟩
 ·exact ⟨o, (Heap.get?_update_other _ _ hb).trans eb⟩
theorem JW {Q : Unit → Shared → Prop} (hfr : A.frames = some fs) (ff : FF B s.heap fs) (top : ∃ env₀ outer, fs = env₀ :: outer ∧ env.frame = env₀.frame)
  (fly : Fly h s.heap e C) (dom : ∀ b o, h.get? b = some o → ∃ o', s.heap.get? b = some o') (hQ : ∀ h', KpE B h e s.heap h' → FlyT h h' e C → Q () { s with heap := h' }) :
  wpAny M A (noteFrame (.ref e) env) Q E s := by
 obtain ⟨L, hf⟩ : ∃ L, env.frame = some L := by
  obtain ⟨env₀, outer, rfl, hee⟩ := top
  obtain ⟨_, L, _, h1, _⟩ := ff env₀ (.head _)
  exact ⟨L, hee.trans h1⟩
 obtain ⟨hne, oe, vs, he, hc, hdn, hd, h2, ht⟩ := fly
 unfold noteFrame
 simp only [hf]
 rcases ht with h1 | ⟨T, oT, ts, h1, hTe, hTn, hT, hcT, hdT, h3⟩
 ·refine wpAny_bind (wpAny_field he hd h1 ?_)
  rw [if_neg (by decide)]
  exact BK hfr ff top hf hne dom he hc hdn hd (Array.getElem?_eq_some_iff.mp h1).1 h2 hQ
 ·refine wpAny_bind (wpAny_field he hd h1 ?_)
  rw [if_pos (show (Value.ref T != Value.none) = true from by simp)]
  refine wpAny_bind (wpAny_field hT hdT (x := ts[3]) (by simp [h3]) ?_)
  by_cases hq : (ts[3] == rawInt L) = true
  ·rw [if_pos hq]
   exact wpAny_pure (hQ s.heap (.refl ..) ⟨hne, oe, vs, T, oT, ts, he, hc, hdn, hd, h2, h1, hTe, hTn, hT, hcT, hdT, h3⟩)
  ·rw [if_neg hq]
   refine wpAny_bind (wpAny_setField hT hdT h3 ?_)
   have kp : KpE B h e s.heap (s.heap.update T (Obj.mapFields (·.setIfInBounds 3 Value.none))) := Vk hT hcT hdT hTn (Obj.isFreed_of_fields (Obj.data_mapFields hdT _))
   refine BK (h := h) (fs := fs) (B := B) (s := { s with heap := s.heap.update T (Obj.mapFields (·.setIfInBounds 3 Value.none)) }) hfr (fun env' he' => ?_) top hf hne (fun b o q => ?_) ((Heap.get?_update_other _ _ hTe).trans he) hc hdn hd (Array.getElem?_eq_some_iff.mp h1).1 h2
    fun h' k f => hQ h' (kp.trans k) f
   ·obtain ⟨a, L', o, b, c, d, es, n, k⟩ := ff env' he'
    refine ⟨a, L', o, b, c, (Heap.get?_update_other _ _ ?_).trans d, es, n, k⟩
    rintro rfl
    rw [hT] at d; cases d; rw [hdT] at k; cases k
   ·obtain ⟨o', q'⟩ := dom b o q
    exact kp.dom b o' q'
theorem JR {Q : Unit → Shared → Prop} {fr : Option Addr} (fly : FlyT h s.heap e C) (hQ : ∀ h', KpE B h e s.heap h' → FlyT h h' e C → Q () { s with heap := h' }) : wpAny M A (setFlight (.ref e) fr) Q E s := by
 obtain ⟨hne, oe, vs, T, oT, ts, he, hc, hdn, hd, h2, h1, hTe, hTn, hT, hcT, hdT, h3⟩ := fly
 unfold setFlight
 refine wpAny_bind (wpAny_field he hd h1 ?_)
 rw [if_pos (show (Value.ref T != Value.none) = true from by simp)]
 refine wpAny_setField hT hdT h3 (hQ _ (Vk hT hcT hdT hTn (Obj.isFreed_of_fields (Obj.data_mapFields hdT _))) ?_)
 refine ⟨hne, oe, vs, T, _, _, (Heap.get?_update_other _ _ hTe).trans he, hc, hdn, hd, h2, h1, hTe, hTn, Heap.get?_update_self _ hT (Obj.isFreed_of_fields (Obj.data_mapFields hdT _)), (Obj.cls_mapFields _ _).trans hcT, Obj.data_mapFields hdT _, by simp [h3]⟩
theorem Oc {Q : Unit → Shared → Prop} (hfr : A.frames = some fs) (ff : FF B s.heap fs) (top : ∃ env₀ outer, fs = env₀ :: outer ∧ env.frame = env₀.frame)
  (fly : Fly h s.heap e C) (dom : ∀ b o, h.get? b = some o → ∃ o', s.heap.get? b = some o') (hQ : ∀ h', KpE B h e s.heap h' → FlyT h h' e C → Q () { s with heap := h' }) :
  wpAny M A (leaving env (.ref e)) Q E s := by
 unfold leaving
 refine wpAny_bind (JW hfr ff top fly dom fun h₁ k₁ f₁ => ?_)
 exact JR (s := { s with heap := h₁ }) (B := B) f₁ fun h₂ k₂ f₂ => hQ h₂ (k₁.trans k₂) f₂
end
theorem KpE.carry {B h g h' : Heap} {e C : Addr} {S : Addr → Prop} (k : KpE B h e g h') (f : Fly h g e C) (f' : FlyT h h' e C) : Carry S g S h' where
 tup := fun e' hc hd => by
  obtain ⟨_, oe, vs, he, _, _, hde, _⟩ := f
  obtain ⟨sl, q, hs⟩ := k.keep _ _ e' (by rintro rfl; rw [he] at e'; cases e'; rw [hde] at hd; cases hd) (.inl (by rw [hc]; simp))
  rw [hs (.seq hd)] at q; exact q
 list := fun s e' hc hd => by
  refine ⟨s, ?_⟩
  obtain ⟨_, oe, vs, he, _, _, hde, _⟩ := f
  obtain ⟨sl, q, hs⟩ := k.keep _ _ e' (by rintro rfl; rw [he] at e'; cases e'; rw [hde] at hd; cases hd) (.inl (by rw [hc]; simp))
  rw [hs (.seq hd)] at q; exact q
 range := fun e' => by
  obtain ⟨_, oe, vs, he, hce, _⟩ := f
  obtain ⟨sl, q, hs⟩ := k.keep _ _ e' (by rintro rfl; unfold IsRange at e'; rw [he] at e'; cases e'; cases hce) (.inl (by simp))
  have hs := hs (.fields rfl)
  simp only at hs
  subst hs
  exact q
 exc := fun {a} {o} {vs} {C'} e' hc hn hd r => by
  by_cases ha : a = e
  ·subst ha
   obtain ⟨_, oe, vs, he, hce, _⟩ := f
   rw [he] at e'; cases e'
   rw [hc] at hce; cases hce
   obtain ⟨_, oe', vs', _, _, _, h1, h2, hn', h3, h4, _⟩ := f'
   exact .exc h1 h2 hn' h3 h4
  ·obtain ⟨sl, q, hs⟩ := k.keep _ _ e' ha (.inl (by rw [hc]; simp))
   rw [hs (.fields hd)] at q
   exact .exc q hc hn hd r
 dom := fun a o e' => k.dom a o e'
 obj := fun {a dx C' m} s1 s2 e' n => by
  obtain ⟨_, oe, vs, he, _, _, hde, _⟩ := f
  obtain ⟨sl, q, hs⟩ := k.keep _ _ e' (by rintro rfl; rw [he] at e'; cases e'; cases hde) (.inl (by simp))
  have hs := hs (fun es m q => by cases q)
  simp only at hs
  subst hs
  obtain ⟨o, es, ep, ho, hd, r⟩ := n
  obtain ⟨sl, q'⟩ := k.kd _ _ _ _ ho hd
  exact ⟨s1, s2, q, _, es, ep, q', hd, r⟩
theorem RV.kpE {B h g h' : Heap} {e C : Addr} {S : Addr → Prop} (k : KpE B h e g h') (f : Fly h g e C) (f' : FlyT h h' e C) {v : Value} {d : D} (q : RV S g v d) : RV S h' v d := q.map (k.carry f f')
section
variable {G : Gd} {cx : Cx} {sc : Scope} {ρ ρ₀ : AEnv} {S S₀ : Addr → Prop} {h g h' : Heap} {e C : Addr}
theorem KpE.ns (k : KpE G.B h e g h') (f : Fly h g e C) {a : Addr} {m : Str → Option Value} (hk : ∃ o, h.get? a = some o) (n : g.Ns a m) : h'.Ns a m := by
 obtain ⟨o, es, ep, ho, hd, r⟩ := n
 obtain ⟨_, oe, vs, he, _, _, hde, _⟩ := f
 obtain ⟨sl, q, _⟩ := k.keep a o ho (by rintro rfl; rw [he] at ho; cases ho; rw [hde] at hd; cases hd) (.inr hk)
 exact ⟨_, es, ep, q, hd, r⟩
theorem KpE.cell (k : KpE G.B h e g h') (f : Fly h g e C) {a : Addr} {v : Option Value} (hk : ∃ o, h.get? a = some o) (n : g.IsCell a v) : h'.IsCell a v := by
 obtain ⟨o, ho, hd⟩ := n
 obtain ⟨_, oe, vs, he, _, _, hde, _⟩ := f
 obtain ⟨sl, q, _⟩ := k.keep a o ho (by rintro rfl; rw [he] at ho; cases ho; rw [hde] at hd; cases hd) (.inr hk)
 exact ⟨_, q, hd⟩
theorem Rel.var_kpE (r₀ : Rel G cx sc ρ₀ S₀ h) (k : KpE G.B h e g h') (f : Fly h g e C) {x : Str} {v : Value} (q : Var cx.env g x v) : Var cx.env h' x v := by
 rcases q with ⟨a, m, b, c⟩ | ⟨a, c, b, d⟩
 ·exact .inl ⟨a, m, k.ns f (let ⟨_, o, _, _, q, _⟩ := r₀.ns; ⟨o, q⟩) b, c⟩
 ·exact .inr ⟨a, c, b, k.cell f (let ⟨_, o, q, _⟩ := r₀.cells x c b; ⟨o, q⟩) d⟩
theorem Rel.var_back (r₀ : Rel G cx sc ρ₀ S₀ h) (r : Rel G cx sc ρ S g) (k : KpE G.B h e g h') (f : Fly h g e C) {x : Str} {v : Value} (q : Var cx.env h' x v) : Var cx.env g x v := by
 rcases q with ⟨a, m, b, c⟩ | ⟨a, c, b, d⟩
 ·obtain ⟨m₀, n₀⟩ := r.ns
  exact .inl ⟨a, m₀, n₀, by rw [(k.ns f (let ⟨_, o, _, _, q, _⟩ := r₀.ns; ⟨o, q⟩) n₀).agree b x]; exact c⟩
 ·obtain ⟨v₀, i₀⟩ := r.cells x c b
  exact .inr ⟨a, c, b, by rw [IsCell.inj d (k.cell f (let ⟨_, o, q, _⟩ := r₀.cells x c b; ⟨o, q⟩) i₀)]; exact i₀⟩
theorem Rel.kpE (r₀ : Rel G cx sc ρ₀ S₀ h) (r : Rel G cx sc ρ S g) (k : KpE G.B h e g h') (f : Fly h g e C) (f' : FlyT h h' e C) : Rel G cx sc ρ S h' where
 base := fun b o q => k.base b o q (r.base b o q) (by rintro rfl; have := r₀.base _ _ q; rw [f.1] at this; cases this) ⟨o, r₀.base b o q⟩
 keep := fun b o q => by
  obtain ⟨sl, q₁, k₁⟩ := r.keep b o q
  obtain ⟨o₀, q₀⟩ := r₀.keep.dom q
  obtain ⟨sl', q₂, k₂⟩ := k.keep b _ q₁ (by rintro rfl; rw [f.1] at q₀; cases q₀) (.inr ⟨o₀, q₀⟩)
  exact ⟨sl', q₂, fun hn => (k₂ hn).trans (k₁ hn)⟩
 ff := fun env he => by
  obtain ⟨a, L, o, b, c, d, es, n, q⟩ := r.ff env he
  obtain ⟨_, L', o₀, b', _, d', _⟩ := r₀.ff env he
  rw [b] at b'; cases b'
  obtain ⟨sl', q₂, k₂⟩ := k.keep L _ d (by rintro rfl; rw [f.1] at d'; cases d') (.inr ⟨o₀, d'⟩)
  exact ⟨a, L, _, b, c, q₂, es, n, q⟩
 ns := let ⟨m, n⟩ := r.ns; ⟨m, k.ns f (let ⟨_, o, _, _, q, _⟩ := r₀.ns; ⟨o, q⟩) n⟩
 cells := fun x c q => let ⟨v, n⟩ := r.cells x c q; ⟨v, k.cell f (let ⟨_, o, q', _⟩ := r₀.cells x c q; ⟨o, q'⟩) n⟩
 sdom := fun b q => let ⟨o, e⟩ := r.sdom b q; k.dom b o e
 sok := r.sok
 sloc := r.sloc
 scell := r.scell
 live := fun x a hd q => let ⟨o, e⟩ := r.live x a hd (r₀.var_back r k f q); k.dom a o e
 clean := r.clean
 hok := fun v q => let ⟨C, e⟩ := r.hok v q; ⟨C, RV.kpE k f f' e⟩
 vars := fun i x t hx ht => by
  obtain ⟨v, hv, tv⟩ := r.vars i x t hx ht
  refine ⟨v, r₀.var_kpE k f hv, ?_⟩
  cases t with
  | sh d => exact RV.kpE k f f' tv
  | ow m d =>
   obtain ⟨a, rfl, ns, ow, n⟩ := tv
   refine ⟨a, rfl, ns, ?_, n⟩
   rcases ow.cases with ow | ⟨ks, ds, rfl, ow⟩
   ·obtain ⟨o', e'', hcl, vs', n', hd'⟩ := ow.cls
    refine (ow.map (k.carry f f') fun o q hn => ?_).v
    rw [e''] at q; cases q
    obtain ⟨_, oe, ws, he, _, _, hde, _⟩ := f
    obtain ⟨sl, q', hs⟩ := k.keep _ _ e'' (by rintro rfl; rw [he] at e''; cases e''; rw [hde] at hd'; cases hd') (.inl (by rw [hcl]; simp))
    rw [hs hn] at q'; exact q'
   ·refine DictAt.map (k.carry f f') (fun o q => ?_) ow
    obtain ⟨o', es, nn, _, e'', _, hd', _⟩ := ow
    rw [e''] at q; cases q
    exact k.kd _ _ _ _ e'' hd'
 inj := fun i j x y m m' d d' v hx hy hi hj a b => r.inj i j x y m m' d d' v hx hy hi hj (r₀.var_back r k f a) (r₀.var_back r k f b)
 dok := r.dok.back fun _ _ q => r₀.var_back r k f q
theorem Ext.kpE (x : Ext S₀ h S g) (k : KpE G.B h e g h') (f : Fly h g e C) : Ext S₀ h S h' :=
 ⟨x.sub, fun b o eb q => by
  obtain ⟨sl, e₁, k₁⟩ := x.keep b o eb q
  obtain ⟨sl', e₂, k₂⟩ := k.keep b _ e₁ (by rintro rfl; rw [f.1] at eb; cases eb) (.inr ⟨o, eb⟩)
  exact ⟨sl', e₂, fun hn => (k₂ hn).trans (k₁ hn)⟩, fun b o eb => let ⟨o', e'⟩ := x.dom b o eb; k.dom b o' e'⟩
end
structure FnCx (G : Gd) (cx : Cx) : Prop where
 bh : G.B.StaysIn cx.h₀
 lnew : cx.h₀.get? cx.env.locals = none
 cap : ∀ x y c, cx.env.cells.lookup x = some c → cx.env.cells.lookup y = some c → cx.h₀.get? c = none → x = y
 loc : ∀ x c, cx.env.cells.lookup x = some c → c ≠ cx.env.locals
section
variable {G : Gd} {cx : Cx} {sc : Scope} {ρ : AEnv} {S : Addr → Prop} {h h' : Heap}
theorem Gl {loc : Addr} {oL : Obj} (e : h.get? loc = some oL) (hi : ¬ Imm oL) (hs : ¬ S loc) (k : Heap.SameBut loc h h') (e' : ∃ o, h'.get? loc = some o) : Ext S h S h' :=
 ⟨fun _ q => q, fun b o eb q => ⟨o.slots, (k.2 b (by rintro rfl; rw [e] at eb; cases eb; exact q.elim hs hi)).trans eb, fun _ => rfl⟩, fun b o eb => by
  by_cases hb : b = loc
  ·subst hb; exact e'
  ·exact ⟨o, (k.2 b hb).trans eb⟩⟩
theorem Rel.store {loc : Addr} {oL : Obj} {i : Nat} {x : Str} {v : Value} {t : T} (r : Rel G cx sc ρ S h) (bh : G.B.StaysIn cx.h₀) (nd : (Qf sc).Nodup) (hx : (Qf sc)[i]? = some x)
  (e : h.get? loc = some oL) (hi : ¬ Imm oL) (hq : ∀ vs n, oL.data ≠ .seq vs n) (hs : ¬ S loc) (hn : cx.h₀.get? loc = none) (hdl : loc = cx.env.locals ∨ ∀ es n, oL.data ≠ .dict es n) (k : Heap.SameBut loc h h')
  (e' : ∃ o, h'.get? loc = some o ∧ ((∃ es n, oL.data = .dict es n) → ∃ es n, o.data = .dict es n)) (ns : ∃ m, h'.Ns cx.env.locals m) (cl : ∀ y c, cx.env.cells.lookup y = some c → ∃ v, h'.IsCell c v)
  (hv : Var cx.env h' x v) (hb : ∀ y w, y ≠ x → Var cx.env h y w → Var cx.env h' y w) (hf : ∀ y w, y ≠ x → Var cx.env h' y w → Var cx.env h y w) (hcl : X3 x = false ∨ ∃ d, t = .sh d) (tv : TSt cx S h v t) :
  Rel G cx sc (ρ.set i (some t)) S h' ∧ Ext S h S h' := by
 obtain ⟨oL', eL', dL'⟩ := e'
 have x' : Ext S h S h' := Gl e hi hs k ⟨_, eL'⟩
 have ow' : ∀ {a d}, ((∃ ks ds, d = .dict ks ds) → a ≠ cx.env.locals) → Uh S h a d → Uh S h' a d := fun {a d} hal q => by
  have hne : a ≠ loc := by
   rintro rfl
   rcases q.cases with q | ⟨ks, ds, rfl, q⟩
   ·obtain ⟨o', ho', _, vs, n, hd⟩ := q.cls
    rw [e] at ho'; cases ho'; exact hq vs n hd
   ·rcases hdl with hdl | hdl
    ·exact hal ⟨_, _, rfl⟩ hdl
    ·obtain ⟨o', es, n, _, ho', _, hd, _⟩ := q
     rw [e] at ho'; cases ho'; exact hdl es n hd
  exact q.ext x' fun o eo => ⟨o.slots, (k.2 a hne).trans eo, fun _ => rfl⟩
 have lt : i < (Qf sc).length := (List.getElem?_eq_some_iff.mp hx).1
 have neName : ∀ (j : Nat) (y : Str), (Qf sc)[j]? = some y → j ≠ i → y ≠ x := fun j y hy hj q => by
  subst q
  obtain ⟨h1, e1⟩ := List.getElem?_eq_some_iff.mp hx
  obtain ⟨h2, e2⟩ := List.getElem?_eq_some_iff.mp hy
  exact hj ((List.getElem_inj nd).mp (e2.trans e1.symm))
 have live : ∀ a, v = .ref a → ∃ o, h.get? a = some o := fun a ea => by
  cases t with
  | sh d => exact RV.live tv a ea
  | ow m d => obtain ⟨b, rfl, _, ow, _⟩ := tv; cases ea; obtain ⟨o, ho, _⟩ := ow.live; exact ⟨o, ho⟩
 refine ⟨⟨fun b o q => (k.2 b (by rintro rfl; rw [bh _ _ q] at hn; cases hn)).trans (r.base b o q), fun b o q => ?_, fun env he => ?_, ns, cl, fun b q => let ⟨o, eo⟩ := r.sdom b q; x'.dom b o eo, r.sok, r.sloc, r.scell, fun y a hdy q => ?_, fun j y m d hy hj => ?_, fun v q => let ⟨C, e⟩ := r.hok v q; ⟨C, e.ext x'⟩, fun j y u hy hu => ?_, fun j l y z m m' d d' u hy hz hj hl a b => ?_, fun j y m ks ds hy hj hvy => ?_⟩, x'⟩
 rotate_right
 ·by_cases hji : j = i
  ·subst hji
   rw [hx] at hy; cases hy
   have hjl : j < ρ.length := by
    by_cases q : j < ρ.length
    ·exact q
    ·rw [List.getElem?_eq_none (by rw [List.length_set]; exact Nat.le_of_not_lt q)] at hj; cases hj
   rw [List.getElem?_set_self hjl] at hj; cases hj
   obtain ⟨a', rfl, _, _, _, _, hal⟩ := tv
   have := Var.inj hv hvy
   injection this with this
   exact hal ⟨_, _, rfl⟩ this
  ·rw [List.getElem?_set_ne (Ne.symm hji)] at hj
   exact r.dok j y m ks ds hy hj (hf y _ (neName j y hy hji) hvy)
 ·obtain ⟨sl, q₁, k₁⟩ := r.keep b o q
  exact ⟨sl, (k.2 b (by rintro rfl; rw [q] at hn; cases hn)).trans q₁, k₁⟩
 ·obtain ⟨a, L, o, b, c, d, es, n, q⟩ := r.ff env he
  by_cases hL : L = loc
  ·subst hL
   rw [e] at d; cases d
   obtain ⟨es', n', q'⟩ := dL' ⟨es, n, q⟩
   exact ⟨a, L, _, b, c, eL', es', n', q'⟩
  ·exact ⟨a, L, o, b, c, (k.2 L hL).trans d, es, n, q⟩
 ·by_cases hy : y = x
  ·subst hy
   obtain ⟨o, eo⟩ := live a (Var.inj hv q)
   exact x'.dom a o eo
  ·obtain ⟨o, eo⟩ := r.live y a hdy (hf y _ hy q)
   exact x'.dom a o eo
 ·by_cases hji : j = i
  ·subst hji
   rw [hx] at hy; cases hy
   rcases hcl with hcl | ⟨d', rfl⟩
   ·exact hcl
   ·have hjl : j < ρ.length := by
     by_cases q : j < ρ.length
     ·exact q
     ·rw [List.getElem?_eq_none (by rw [List.length_set]; exact Nat.le_of_not_lt q)] at hj; cases hj
    rw [List.getElem?_set_self hjl] at hj; cases hj
  ·rw [List.getElem?_set_ne (Ne.symm hji)] at hj
   exact r.clean j y m d hy hj
 ·by_cases hj : j = i
  ·subst hj
   rw [hx] at hy; cases hy
   by_cases hl : j < ρ.length
   ·rw [List.getElem?_set_self hl] at hu; cases hu
    refine ⟨v, hv, ?_⟩
    cases t with
    | sh d => exact RV.ext x' tv
    | ow m d => obtain ⟨a, rfl, n1, ow, n2, _, hal⟩ := tv; exact ⟨a, rfl, n1, ow' hal ow, fun _ => n2⟩
   ·rw [List.getElem?_eq_none (by rw [List.length_set]; exact Nat.le_of_not_lt hl)] at hu; cases hu
  ·rw [List.getElem?_set_ne (Ne.symm hj)] at hu
   obtain ⟨w, hw, tw⟩ := r.vars j y u hy hu
   refine ⟨w, hb y w (neName j y hy hj) hw, ?_⟩
   cases u with
   | sh d => exact RV.ext x' tw
   | ow m d =>
    obtain ⟨a, rfl, n1, ow, n2⟩ := tw
    refine ⟨a, rfl, n1, ow' ?_ ow, n2⟩
    rintro ⟨ks, ds, rfl⟩ rfl
    exact r.dok j y m ks ds hy hu hw
 ·by_cases hji : j = i <;> by_cases hli : l = i
  ·rw [hji, hli]
  ·exfalso
   subst hji
   rw [hx] at hy; cases hy
   rw [List.getElem?_set_ne (Ne.symm hli)] at hl
   have hjl : j < ρ.length := by
    by_cases q : j < ρ.length
    ·exact q
    ·rw [List.getElem?_eq_none (by rw [List.length_set]; exact Nat.le_of_not_lt q)] at hj; cases hj
   rw [List.getElem?_set_self hjl] at hj; cases hj
   obtain ⟨a', rfl, _, _, _, nv, _⟩ := tv
   rw [Var.inj a hv] at b
   exact nv z (r.clean l z m' d' hz hl) (hf z _ (neName l z hz hli) b)
  ·exfalso
   subst hli
   rw [hx] at hz; cases hz
   rw [List.getElem?_set_ne (Ne.symm hji)] at hj
   have hjl : l < ρ.length := by
    by_cases q : l < ρ.length
    ·exact q
    ·rw [List.getElem?_eq_none (by rw [List.length_set]; exact Nat.le_of_not_lt q)] at hl; cases hl
   rw [List.getElem?_set_self hjl] at hl; cases hl
   obtain ⟨a', rfl, _, _, _, nv, _⟩ := tv
   rw [Var.inj b hv] at a
   exact nv y (r.clean j y m d hy hj) (hf y _ (neName j y hy hji) a)
  ·rw [List.getElem?_set_ne (Ne.symm hji)] at hj
   rw [List.getElem?_set_ne (Ne.symm hli)] at hl
   exact r.inj j l y z m m' d d' u hy hz hj hl (hf y _ (neName j y hy hji) a) (hf z _ (neName l z hz hli) b)
theorem K5 {i : Nat} {x : Str} {v : Value} {t : T} {s : Shared} (ok : CxOk G cx sc 0) (fn : FnCx G cx) (r : Rel G cx sc ρ S s.heap) (hx : (Qf sc)[i]? = some x) (hk : sc.names.lookup x = some .local ∨ (sc.names.lookup x = some .cell ∧ ∃ c, cx.env.cells.lookup x = some c ∧ cx.h₀.get? c = none)) (hcl : X3 x = false ∨ ∃ d, t = .sh d) (tv : TSt cx S s.heap v t) :
  Qk G cx sc false (storeName cx.env x v) S s (fun _ _ _ (_ : Unit) => True) (.ok () (ρ.set i (some t))) := by
 intro Q E out
 have hkf : cx.env.scope.kind = .function := by rw [ok.hsc]; exact ok.hk
 have kd : ∀ y, cx.env.kindOf y = sc.names.lookup y := fun y => by unfold Env.kindOf; rw [ok.hsc]
 rcases hk with hk | ⟨hk, hc⟩
 ·obtain ⟨m, hm⟩ := r.ns
  have hm0 := hm
  obtain ⟨oL, es, ep, eL, dL, _⟩ := hm0
  refine wpAny_storeName_local ((kd x).trans hk) hm (fun h' n' k => ?_) (by rw [hkf]; rfl)
  have n'' := n'
  obtain ⟨oL', es', ep', eL', dL', _⟩ := n''
  have cellsame : ∀ y c, cx.env.cells.lookup y = some c → ∀ w, s.heap.IsCell c w → h'.IsCell c w := fun y c q w n => n.sameBut k (fn.loc y c q)
  have vx : Var cx.env h' x v := .inl ⟨(kd x).trans hk, _, n', by simp⟩
  obtain ⟨r', x'⟩ := r.store (loc := cx.env.locals) (i := i) (x := x) (v := v) (t := t) fn.bh ok.nodup hx eL (by rintro (⟨_, vs, n, q⟩ | ⟨vs, q⟩) <;> (rw [dL] at q; cases q)) (fun vs n q => by rw [dL] at q; cases q) r.sloc fn.lnew (.inl rfl) k
   ⟨oL', eL', fun _ => ⟨es', ep', dL'⟩⟩ ⟨_, n'⟩ (fun y c q => let ⟨w, n⟩ := r.cells y c q; ⟨w, cellsame y c q w n⟩) vx
   (fun y w hy q => by
    rcases q with ⟨a, m₁, b, c⟩ | ⟨a, c, b, d⟩
    ·refine .inl ⟨a, _, n', ?_⟩
     rw [if_neg hy, ← b.agree hm y]; exact c
    ·exact .inr ⟨a, c, b, cellsame y c b _ d⟩)
   (fun y w hy q => by
    rcases q with ⟨a, m₁, b, c⟩ | ⟨a, c, b, d⟩
    ·refine .inl ⟨a, m, hm, ?_⟩
     have := b.agree n' y
     rw [if_neg hy] at this
     rw [← this]; exact c
    ·obtain ⟨w₀, n₀⟩ := r.cells y c b
     exact .inr ⟨a, c, b, by rw [IsCell.inj d (cellsame y c b _ n₀)]; exact n₀⟩) hcl tv
  exact out () h' _ S r' trivial x' fun q => by cases q
 ·obtain ⟨c, hc, hcn⟩ := hc
  obtain ⟨w₀, n₀⟩ := r.cells x c hc
  have n₁ := n₀
  obtain ⟨oL, eL, dL⟩ := n₁
  refine wpAny_storeName_cell hkf ((kd x).trans hk) hc n₀ (fun h' n' k => ?_)
  have n'' := n'
  obtain ⟨oL', eL', dL'⟩ := n''
  have hcloc : c ≠ cx.env.locals := fn.loc x c hc
  have nsame : ∀ m, s.heap.Ns cx.env.locals m → h'.Ns cx.env.locals m := fun m n => n.sameBut k (Ne.symm hcloc)
  have cellsame : ∀ y c', y ≠ x → cx.env.cells.lookup y = some c' → ∀ w, s.heap.IsCell c' w → h'.IsCell c' w := fun y c' hy q w n => n.sameBut k (by rintro rfl; exact hy (fn.cap y x c' q hc hcn))
  obtain ⟨r', x'⟩ := r.store (loc := c) (i := i) (x := x) (v := v) (t := t) fn.bh ok.nodup hx eL (by rintro (⟨_, vs, n, q⟩ | ⟨vs, q⟩) <;> (rw [dL] at q; cases q)) (fun vs n q => by rw [dL] at q; cases q) (r.scell x c hc) hcn (.inr fun es n q => by rw [dL] at q; cases q) k
   ⟨oL', eL', fun q => by obtain ⟨_, _, q⟩ := q; rw [dL] at q; cases q⟩ (let ⟨m, n⟩ := r.ns; ⟨m, nsame m n⟩)
   (fun y c' q => by
    by_cases hy : y = x
    ·subst hy; rw [hc] at q; cases q; exact ⟨_, n'⟩
    ·obtain ⟨w, n⟩ := r.cells y c' q; exact ⟨w, cellsame y c' hy q w n⟩) (.inr ⟨.inl ((kd x).trans hk), c, hc, n'⟩)
   (fun y w hy q => by
    rcases q with ⟨a, m₁, b, c'⟩ | ⟨a, c', b, d⟩
    ·exact .inl ⟨a, m₁, nsame m₁ b, c'⟩
    ·exact .inr ⟨a, c', b, cellsame y c' hy b _ d⟩)
   (fun y w hy q => by
    rcases q with ⟨a, m₁, b, c'⟩ | ⟨a, c', b, d⟩
    ·obtain ⟨m₀, n₀⟩ := r.ns
     refine .inl ⟨a, m₀, n₀, ?_⟩
     rw [(nsame m₀ n₀).agree b y]; exact c'
    ·obtain ⟨w₀, n₀⟩ := r.cells y c' b
     exact .inr ⟨a, c', b, by rw [IsCell.inj d (cellsame y c' hy b _ n₀)]; exact n₀⟩) hcl tv
  exact out () h' s.toks S r' trivial x' fun q => by cases q
end
inductive Fl where
 | next
 | brk
 | cont
 | ret (t : T)
noncomputable def Ic (cx : Cx) (S : Addr → Prop) (h : Heap) (v : Value) : T → Prop
 | .sh d => RV S h v d
 | .ow _ d => ∃ a, v = .ref a ∧ ¬ S a ∧ XM S h a d ∧ cx.h₀.get? a = none
theorem Yp.ret {cx : Cx} {S : Addr → Prop} {h : Heap} {v : Value} {t : T} (q : Yp cx S h v t) : Ic cx S h v t := by
 cases t with
 | sh d => exact q
 | ow m d => obtain ⟨a, e, n, o, k, _⟩ := q; exact ⟨a, e, n, o, k⟩
noncomputable def FlJ (cx : Cx) (S : Addr → Prop) (h : Heap) : Flow → Fl → Prop
 | .next, .next => True
 | .brk, .brk => True
 | .cont, .cont => True
 | .ret v, .ret t => Ic cx S h v t
 | _, _ => False
structure FnOk (G : Gd) (cx : Cx) : Prop extends FnCx G cx where
 has : ∀ x, cx.env.kindOf x = some .cell → ∃ c, cx.env.cells.lookup x = some c ∧ cx.h₀.get? c = none
noncomputable def YY (G : Gd) (k : Nat) (sc : Scope) (st : Stmt) (f : AEnv → Res Fl) : Prop :=
 ∀ cx, CxOk G cx sc k → FnOk G cx → ∀ ρ S s, Rel G cx sc ρ S s.heap → Qk G cx sc false (exec st cx.env) S s (fun S' h' a b => FlJ cx S' h' a b) (f ρ)
noncomputable def Wa (G : Gd) (k : Nat) (sc : Scope) (sts : List Stmt) (f : AEnv → Res Fl) : Prop :=
 ∀ cx, CxOk G cx sc k → FnOk G cx → ∀ ρ S s, Rel G cx sc ρ S s.heap → Qk G cx sc false (execs sts cx.env) S s (fun S' h' a b => FlJ cx S' h' a b) (f ρ)
noncomputable def Qn : AEnv → Res Fl := fun ρ => .ok .next ρ
noncomputable def Qj (f g : AEnv → Res Fl) : AEnv → Res Fl := fun ρ => (f ρ).bind fun fl ρ₁ => match fl with
 | .next => g ρ₁
 | fl => .ok fl ρ₁
noncomputable def sIf (t : AEnv → Res Bool) (a b : AEnv → Res Fl) : AEnv → Res Fl := fun ρ => (t ρ).bind fun c ρ₁ => if c then a ρ₁ else b ρ₁
noncomputable def Zq (f : AEnv → Res T) : AEnv → Res Fl := fun ρ => (f ρ).bind fun t ρ₁ => .ok (.ret t) ρ₁
noncomputable def YB (i : Nat) : AEnv → Res Fl := fun ρ => match ρ[i]? with
 | some (some (.sh d)) => .ok (.ret (.sh d)) ρ
 | some (some (.ow true (.list ds))) => .ok (.ret (.ow true (.list ds))) ρ
 | _ => .stuck
noncomputable def Zd (f : AEnv → Res Bv) : AEnv → Res Fl := fun ρ => (f ρ).bind fun _ ρ₁ => .ok .next ρ₁
noncomputable def Qx (i : Nat) (f : AEnv → Res T) : AEnv → Res Fl := fun ρ => (f ρ).bind fun t ρ₁ => .ok .next (ρ₁.set i (some t))
section
variable {G : Gd} {k : Nat} {sc : Scope}
theorem Qg : Wa G k sc [] Qn := fun _ _ _ _ _ _ r => Qk.pure r trivial
theorem Qa {st : Stmt} {rest : List Stmt} {f g : AEnv → Res Fl} (h1 : YY G k sc st f) (h2 : Wa G k sc rest g) : Wa G k sc (st :: rest) (Qj f g) := by
 intro cx ok fn ρ S s r
 rw [execs_cons]
 refine Qk.bind (h1 cx ok fn ρ S s r) fun fl ρ₁ a h₁ t₁ S₁ _ r₁ j x₁ v₁ => ?_
 cases a <;> cases fl <;> first | exact j.elim | exact h2 cx ok fn ρ₁ S₁ _ r₁ | exact Qk.pure r₁ j
theorem Xj {test : Expr} {body orelse : List Stmt} {pos : Pos} {t : AEnv → Res Bool} {a b : AEnv → Res Fl} (ht : Ju G k sc test t) (ha : Wa G k sc body a) (hb : Wa G k sc orelse b) : YY G k sc (.If test body orelse pos) (sIf t a b) := by
 intro cx ok fn ρ S s r
 rw [exec_If]
 refine Qk.standAt (Qk.bind (ht cx ok ρ S s r).loose fun c ρ₁ a' h₁ t₁ S₁ _ r₁ j x₁ v₁ => ?_)
 subst j
 cases a'
 ·exact hb cx ok fn ρ₁ S₁ _ r₁
 ·exact ha cx ok fn ρ₁ S₁ _ r₁
theorem QC {e : Expr} {pos : Pos} {f : AEnv → Res T} (h : Sim G k sc e f) : YY G k sc (.Return (some e) pos) (Zq f) := by
 intro cx ok fn ρ S s r
 rw [exec_Return_some]
 refine Qk.standAt (Qk.bind (h cx ok ρ S s r).loose fun t ρ₁ v h₁ t₁ S₁ _ r₁ j x₁ v₁ => ?_)
 exact Qk.pure r₁ j.ret
set_option tactic.hygienic true in
theorem Ol {x : Str} {p pos : Pos} {i : Nat} (hx : (Qf sc)[i]? = some x) (hd : (x == ("__debug__" : Str)) = false) (hn : (x == ("__classdict__" : Str)) = false) : YY G k sc (.Return (some (.Name x p)) pos) (YB i) := by
 intro cx ok fn ρ S s r
 rw [exec_Return_some]
 refine Qk.standAt ?_
 intro Q E out
 unfold YB at out
 split at out
 ·rename_i d ht
  obtain ⟨v, hv, tv⟩ := r.vars i x _ hx ht
  exact wpAny_bind (wpAny_Name (Xr (ok.mono (Nat.zero_le _)) hv hn rfl (wpAny_pure (out (.ret v) s.heap s.toks S r tv (Ext.refl ..) fun _ => Qq.refl _ _))) hd)
 ·rename_i d ht
  obtain ⟨v, hv, a, rfl, n1, ow, n2⟩ := r.vars i x _ hx ht
  exact wpAny_bind (wpAny_Name (Xr (ok.mono (Nat.zero_le _)) hv hn rfl (wpAny_pure (out (.ret (.ref a)) s.heap s.toks S r ⟨a, rfl, n1, ow, n2 rfl⟩ (Ext.refl ..) fun _ => Qq.refl _ _))) hd)
 ·exact out.elim
theorem Z5 {e : Expr} {pos : Pos} {f : AEnv → Res Bv} (h : Qh G k sc e f) (hs : ∀ env : Env, swapsWith e none pos.line env = pure false) : YY G k sc (.Expr e pos) (Zd f) := by
 intro cx ok fn ρ S s r Q E out
 refine wpAny_Expr_any ?_ (by unfold interactive; rw [ok.hsc, ok.hk]; rfl) (hs cx.env)
 refine h cx ok ρ S s r _ _ ?_
 unfold Zd at out
 cases hf : f ρ with
 | stuck => rw [hf] at out; exact out
 | exc C ρ' => rw [hf] at out; exact out
 | ok t ρ' => rw [hf] at out; intro v h' tk S' rel j x vs; exact out .next h' tk S' rel trivial x fun q => by cases q
theorem U4 {cx : Cx} {ρ : AEnv} {S : Addr → Prop} {i : Nat} {x : Str} {v : Value} {t : T} {s : Shared} (ok : CxOk G cx sc 0) (fn : FnOk G cx) (r : Rel G cx sc ρ S s.heap) (hx : (Qf sc)[i]? = some x) (hk : sc.names.lookup x = some .local ∨ sc.names.lookup x = some .cell) (hcl : X3 x = false ∨ ∃ d, t = .sh d) (tv : TSt cx S s.heap v t) :
  Qk G cx sc false (bindName cx.env x v) S s (fun _ _ _ (_ : Unit) => True) (.ok () (ρ.set i (some t))) := by
 refine (K5 ok fn.toFnCx r hx (hk.imp id fun q => ⟨q, fn.has x (by unfold Env.kindOf; rw [ok.hsc]; exact q)⟩) hcl tv).wp fun Q E h => wpAny_bindName h
theorem Cf {x : Str} {p pos : Pos} {value : Expr} {i : Nat} {f : AEnv → Res T} (h : Sim G k sc value f) (hx : (Qf sc)[i]? = some x) (hk : sc.names.lookup x = some .local ∨ sc.names.lookup x = some .cell)
  (hcl : X3 x = false) (hs : ∀ env : Env, env.scope = sc → swapsWith value (some (.Name x p)) pos.line env = pure false) : YY G k sc (.Assign [.Name x p] value pos) (Qx i f) := by
 intro cx ok fn ρ S s r
 rw [exec_Assign_Name _ _ _ _ _ (hs cx.env ok.hsc)]
 refine Qk.standAt (Qk.bind (h cx ok ρ S s r).loose fun t ρ₁ v h₁ t₁ S₁ _ r₁ j x₁ v₁ => ?_)
 refine Qk.standAt ?_
 intro Q E out
 refine wpAny_bind (U4 (s := { s with heap := h₁, toks := t₁ }) (ok.mono (Nat.zero_le _)) fn r₁ hx hk (.inl hcl) j.st _ _ ?_)
 intro _ h₂ t₂ S₂ r₂ _ x₂ v₂
 exact wpAny_pure (out .next h₂ t₂ S₂ r₂ trivial x₂ v₂)
end
noncomputable def Jo (t : AEnv → Res Bool) (b : AEnv → Res Fl) : Nat → AEnv → Res Fl
 | 0, _ => .stuck
 | n + 1, ρ => (t ρ).bind fun c ρ₁ => if c then (b ρ₁).bind fun fl ρ₂ => (match fl with
   | .next => Jo t b n ρ₂
   | .cont => Jo t b n ρ₂
   | .brk => .ok .next ρ₂
   | .ret t => .ok (.ret t) ρ₂) else .ok .next ρ₁
noncomputable def Ou (n : Nat) (t : AEnv → Res Bool) (b : AEnv → Res Fl) : AEnv → Res Fl := Jo t b n
section
variable {G : Gd} {k : Nat} {sc : Scope} {cx : Cx} {ρ ρ₀ : AEnv} {S S₀ : Addr → Prop} {s₀ s : Shared}
theorem Eh {C e : Addr} {E : Value → Shared → Prop} (ok : CxOk G cx sc k) (r₀ : Rel G cx sc ρ₀ S₀ s₀.heap) (r : Rel G cx sc ρ S s.heap) (x : Ext S₀ s₀.heap S s.heap) (f : Fly s₀.heap s.heap e C) (hs : ∃ h tk, s = { s₀ with heap := h, toks := tk })
  (hE : ∀ h' tk, Rel G cx sc ρ S h' → FlyT s₀.heap h' e C → Ext S₀ s₀.heap S h' → E (.ref e) { s₀ with heap := h', toks := tk }) : notedBy G.M cx.A cx.env E (.ref e) s := by
 obtain ⟨h, tk, rfl⟩ := hs
 unfold notedBy
 exact JW (B := G.B) ok.fr r.ff ok.top f x.dom fun h' k' f' => hE h' tk (r₀.kpE r k' f f') f' (x.kpE k' f)
theorem E4 {C e : Addr} {E : Value → Shared → Prop} (r₀ : Rel G cx sc ρ₀ S₀ s₀.heap) (r : Rel G cx sc ρ S s.heap) (x : Ext S₀ s₀.heap S s.heap) (f : FlyT s₀.heap s.heap e C) (hs : ∃ h tk, s = { s₀ with heap := h, toks := tk })
  (hE : ∀ h' tk, Rel G cx sc ρ S h' → FlyT s₀.heap h' e C → Ext S₀ s₀.heap S h' → E (.ref e) { s₀ with heap := h', toks := tk }) : cameBackBy G.M cx.A cx.env E (.ref e) s := by
 obtain ⟨h, tk, rfl⟩ := hs
 unfold cameBackBy
 have f0 := f
 obtain ⟨_, oe, vs, T, oT, ts, he, _, _, hd, _, h1, _⟩ := f0
 refine wpAny_bind (wpAny_field he hd h1 ?_)
 rw [if_neg (by simp)]
 exact JR (B := G.B) f fun h' k' f' => hE h' tk (r₀.kpE r k' f.fly f') f' (x.kpE k' f.fly)
theorem B6 {C e : Addr} {ρ' : AEnv} {h' : Heap} {tk : Nat} {S' : Addr → Prop} {Q : Flow → Shared → Prop} {E : Value → Shared → Prop} (ok : CxOk G cx sc k) (r : Rel G cx sc ρ S s.heap) (o : Out G cx sc false S s (fun S' h' a b => FlJ cx S' h' a b) Q E (.exc C ρ')) (r' : Rel G cx sc ρ' S' h') (f' : Fly s.heap h' e C) (x' : Ext S s.heap S' h') : notedBy G.M cx.A cx.env (fun e s' => cameBackBy G.M cx.A cx.env E e s') (.ref e) { s with heap := h', toks := tk } :=
 Eh ok r r' x' f' ⟨h', tk, rfl⟩ fun h₂ t₂ r₂ f₂ x₂ => E4 r r₂ x₂ f₂ ⟨h₂, t₂, rfl⟩ fun h₃ t₃ r₃ f₃ x₃ => o e h₃ t₃ S' r₃ f₃.fly x₃
theorem Out.stepE {α β γ δ : Type} {same same₁ : Bool} {S₁ : Addr → Prop} {h₁ : Heap} {t₁ : Nat} {J : (Addr → Prop) → Heap → α → β → Prop} {J' : (Addr → Prop) → Heap → γ → δ → Prop} {Q : γ → Shared → Prop} {E EN : Value → Shared → Prop} {Q₁ : α → Shared → Prop} {r : Res β} {g : β → AEnv → Res δ} (out : Out G cx sc same S s J' Q E (r.bind g)) (x : Ext S s.heap S₁ h₁)
  (err : ∀ C ρ', Out G cx sc same S s J' Q E (.exc C ρ') → ∀ e h' tk S', Rel G cx sc ρ' S' h' → Fly s.heap h' e C → Ext S s.heap S' h' → EN (.ref e) { s with heap := h', toks := tk })
  (H : ∀ b ρ, Out G cx sc same S s J' Q E (g b ρ) → ∀ a h' tk S', Rel G cx sc ρ S' h' → J S' h' a b → Ext S₁ h₁ S' h' → (same₁ = true → Qq cx.env h₁ h') → Q₁ a { s with heap := h', toks := tk }) :
  Out G cx sc same₁ S₁ { s with heap := h₁, toks := t₁ } J Q₁ EN r := by
 cases r with
 | stuck => exact out
 | exc C ρ => exact fun e h' tk S' r' f' x' => err C ρ out e h' tk S' r' (f'.back x) (x.trans x')
 | ok b ρ => exact H b ρ out
inductive WInv (G : Gd) (cx : Cx) (sc : Scope) (S : Addr → Prop) (P : Nat → AEnv → Prop) (s : Shared) : Nat → Shared → Prop
 | mk {m : Nat} {ρ' : AEnv} {S' : Addr → Prop} {h' : Heap} {tk : Nat} : Rel G cx sc ρ' S' h' → Ext S s.heap S' h' → P m ρ' → WInv G cx sc S P s m { s with heap := h', toks := tk }
set_option tactic.hygienic true in
theorem Dy {test : Expr} {body : List Stmt} {pos : Pos} {n : Nat} {t : AEnv → Res Bool} {b : AEnv → Res Fl} (ht : Ju G k sc test t) (hb : Wa G k sc body b) : YY G k sc (.While test body [] pos) (Ou n t b) := by
 intro cx ok fn ρ S s r Q E out
 refine wpAny_While ?_
 obtain ⟨Inv, hI, hC⟩ : ∃ Inv : Nat → Shared → Prop, (∀ m s', WInv G cx sc S (fun m ρ' => Out G cx sc false S s (fun S' h' a b => FlJ cx S' h' a b) Q E (Jo t b m ρ')) s m s' → Inv m s') ∧ ∀ m s', Inv m s' → WInv G cx sc S (fun m ρ' => Out G cx sc false S s (fun S' h' a b => FlJ cx S' h' a b) Q E (Jo t b m ρ')) s m s' := ⟨_, fun _ _ q => q, fun _ _ q => q⟩
 refine codeAny_whileLoop Inv ?_ n (hI _ _ (.mk (tk := s.toks) r (Ext.refl ..) out))
 have err : ∀ C ρ', Out G cx sc false S s (fun S' h' a b => FlJ cx S' h' a b) Q E (.exc C ρ') → ∀ e h' tk S', Rel G cx sc ρ' S' h' → Fly s.heap h' e C → Ext S s.heap S' h' → notedBy G.M cx.A cx.env (fun e s' => cameBackBy G.M cx.A cx.env E e s') (.ref e) { s with heap := h', toks := tk } := fun C ρ' o e h' tk S' r' f' x' => B6 ok r o r' f' x'
 generalize (notedBy G.M cx.A cx.env fun e s' => cameBackBy G.M cx.A cx.env E e s') = EN at err ⊢
 intro m s' hinv
 cases hC m s' hinv with
 | mk r' x' out' =>
 rename_i ρ' S' h' tk'
 cases m with
 | zero => exact out'.elim
 | succ m =>
  refine (ht cx ok ρ' S' { s with heap := h', toks := tk' } r').loose (same := false) _ _ (Out.stepE (s := s) out' x' err fun c ρ₁ out' a h₁ t₁ S₁ r₁ j₁ x₁ _ => ?_)
  subst j₁
  cases a with
  | false => exact wpAny_pure (out' .next h₁ t₁ S₁ r₁ trivial (x'.trans x₁) fun q => by cases q)
  | true =>
   refine hb cx ok fn ρ₁ S₁ { s with heap := h₁, toks := t₁ } r₁ _ _ (Out.stepE (s := s) out' (x'.trans x₁) err fun fl ρ₂ out' a h₂ t₂ S₂ r₂ j₂ x₂ _ => ?_)
   have xx := (x'.trans x₁).trans x₂
   cases a <;> cases fl <;> first
    | exact j₂.elim
    | exact ⟨m, Nat.lt_succ_self _, hI _ _ (.mk (tk := t₂) r₂ xx out')⟩
    | exact out' _ h₂ t₂ S₂ r₂ j₂ xx fun q => by cases q
end
inductive FOut where
 | ok (t : T)
 | exc (C : Addr)
 | stuck
noncomputable def Dg (S : Addr → Prop) (h : Heap) : Prop := ∀ b, S b → ∃ o, h.get? b = some o
noncomputable def II (h : Heap) (S : Addr → Prop) (h' : Heap) (v : Value) : T → Prop
 | .sh d => RV S h' v d
 | .ow _ d => ∃ a, v = .ref a ∧ h.get? a = none ∧ ¬ S a ∧ XM S h' a d
noncomputable def IL (G : Gd) (S : Addr → Prop) (s : Shared) (R : Result → Shared → Prop) : FOut → Prop
 | .ok t => ∀ v h' tk S', Kp s.heap h' → G.B.StaysIn h' → (∀ b, S b → S' b) → (∀ b, S' b → S b ∨ s.heap.get? b = none) → Dg S' h' → II s.heap S' h' v t → R (.ok (.ret v)) { s with heap := h', toks := tk }
 | .exc C => ∀ e h' tk, Kp s.heap h' → G.B.StaysIn h' → FlyT s.heap h' e C → R (.error (.ref e)) { s with heap := h', toks := tk }
 | .stuck => False
noncomputable def ZA (G : Gd) (k : Nat) (g : Value) (F : List D → FOut) : Prop :=
 ∀ (A : Around) (fs : List Env) (S : Addr → Prop) (s : Shared) (vs : List Value) (ds : List D), Bt A k → A.frames = some fs → (G.quiet = true → A.handled = none) → (∀ v, A.handled = some v → ∃ C, RV S s.heap v (.exc C)) → FF G.B s.heap fs → G.B.StaysIn s.heap → Dg S s.heap → RVs S s.heap vs ds →
  ∀ R, IL G S s R (F ds) → codeAny G.M A (.call g ⟨vs, []⟩) R s
noncomputable def ZM (sc : Scope) (ps : List Str) (ds : List D) : AEnv := (Qf sc).map fun x => ((ps.zip ds).lookup x).map T.sh
noncomputable def F5 : Res Fl → FOut
 | .ok (.ret t) _ => .ok t
 | .ok .next _ => .ok (.sh .none)
 | .ok _ _ => .stuck
 | .exc C _ => .exc C
 | .stuck => .stuck
noncomputable def G2 (sc : Scope) (ps : List Str) (f : AEnv → Res Fl) (ds : List D) : FOut := if ds.length = ps.length then F5 (f (ZM sc ps ds)) else .stuck
theorem OD (K : Str → Option NameKind) : ∀ (binds : List (Str × Value)) (m : Str → Option Value) (y : Str), (binds.map (·.1)).Nodup → bindL K binds m y = if K y = some .local then (match binds.lookup y with | some v => some v | none => m y) else m y
 | [], m, y, _ => by simp [bindL]
 | (n, v) :: r, m, y, nd => by
  have nd' : n ∉ r.map (·.1) ∧ (r.map (·.1)).Nodup := by simpa using nd
  rw [bindL, OD K r _ y nd'.2]
  by_cases hy : y = n
  ·subst hy
   have hn : r.lookup y = none := by
    rw [List.lookup_eq_none_iff]
    intro p hp
    have : p.1 ≠ y := fun q => nd'.1 (q ▸ List.mem_map_of_mem (f := (·.1)) hp)
    simpa using this.symm
   by_cases hk : K y = some .local
   ·simp [hk, hn, List.lookup_cons]
   ·simp [hk]
  ·have hb : (y == n) = false := by simpa using hy
   by_cases hk : K y = some .local
   ·rw [if_pos hk, if_pos hk, List.lookup_cons, hb]
    cases r.lookup y with
    | some w => rfl
    | none =>
     simp only
     split
     ·simp [hy]
     ·rfl
   ·rw [if_neg hk, if_neg hk]
    split
    ·simp [hy]
    ·rfl
theorem Oy (K : Str → Option NameKind) : ∀ (binds : List (Str × Value)) (m : Str → Option Value) (y : Str), (binds.map (·.1)).Nodup → bindC K binds m y = if K y = some .local then m y else (match binds.lookup y with | some v => some v | none => m y)
 | [], m, y, _ => by simp [bindC]
 | (n, v) :: r, m, y, nd => by
  have nd' : n ∉ r.map (·.1) ∧ (r.map (·.1)).Nodup := by simpa using nd
  rw [bindC, Oy K r _ y nd'.2]
  by_cases hy : y = n
  ·subst hy
   have hn : r.lookup y = none := by
    rw [List.lookup_eq_none_iff]
    intro p hp
    have : p.1 ≠ y := fun q => nd'.1 (q ▸ List.mem_map_of_mem (f := (·.1)) hp)
    simpa using this.symm
   by_cases hk : K y = some .local
   ·simp [hk]
   ·simp [hk, hn, List.lookup_cons]
  ·have hb : (y == n) = false := by simpa using hy
   by_cases hk : K y = some .local
   ·rw [if_pos hk, if_pos hk]
    split
    ·rfl
    ·simp [hy]
   ·rw [if_neg hk, if_neg hk, List.lookup_cons, hb]
    cases r.lookup y with
    | some w => rfl
    | none =>
     simp only
     split
     ·rfl
     ·simp [hy]
theorem K3 {S : Addr → Prop} {h : Heap} {y : Str} : ∀ {ps : List Str} {vs : List Value} {ds : List D}, RVs S h vs ds → ∀ {d : D}, (ps.zip ds).lookup y = some d → ∃ v, (ps.zip vs).lookup y = some v ∧ RV S h v d
 | [], _, _, _, d, e => by simp at e
 | p :: ps, _, _, .nil, d, e => by simp at e
 | p :: ps, _, _, .cons (v := v) q r, d, e => by
  rw [List.zip_cons_cons, List.lookup_cons] at e ⊢
  cases hb : y == p with
  | true => rw [hb] at e; cases e; exact ⟨v, rfl, q⟩
  | false => rw [hb] at e; exact K3 r e
theorem KO {y : Str} {v : Value} : ∀ {ps : List Str} {vs : List Value}, (ps.zip vs).lookup y = some v → v ∈ vs ∧ y ∈ ps
 | [], _, e => by simp at e
 | _ :: _, [], e => by simp at e
 | p :: ps, w :: vs, e => by
  rw [List.zip_cons_cons, List.lookup_cons] at e
  cases hb : y == p with
  | true => rw [hb] at e; cases e; exact ⟨.head _, by rw [beq_iff_eq.mp hb]; exact .head _⟩
  | false => rw [hb] at e; have := KO e; exact ⟨.tail _ this.1, .tail _ this.2⟩
theorem JX {α β : Type} : ∀ (ps : List α) (vs : List β), vs.length = ps.length → (ps.zip vs).map (·.1) = ps
 | [], [], _ => rfl
 | p :: ps, v :: vs, h => by rw [List.zip_cons_cons, List.map_cons, JX ps vs (by simpa using h)]
 | [], _ :: _, h => by simp at h
 | _ :: _, [], h => by simp at h
set_option tactic.hygienic true in
theorem Yd {x : Str} : ∀ (names : List (Str × NameKind)) (n : Nat) (acc : List (Str × Addr)), names.lookup x = some .cell ∨ (acc.lookup x).isSome = true → ((cellsFrom n names acc).lookup x).isSome = true
 | [], _, _, h => h.elim (fun e => by cases e) id
 | (y, k) :: r, n, acc, h => by
  unfold cellsFrom
  split
  ·rename_i hk
   refine Yd r (n + 1) ((y, n) :: acc) ?_
   cases hy : x == y with
   | true => exact .inr (by rw [List.lookup_cons, hy]; rfl)
   | false =>
    rcases h with h | h
    ·rw [List.lookup_cons, hy] at h; exact .inl h
    ·exact .inr (by rw [List.lookup_cons, hy]; exact h)
  ·rename_i hk
   refine Yd r n acc ?_
   cases hy : x == y with
   | true =>
    rcases h with h | h
    ·rw [List.lookup_cons, hy] at h
     exact absurd (by rw [Option.some.inj h]; rfl) hk
    ·exact .inr h
   | false =>
    rcases h with h | h
    ·rw [List.lookup_cons, hy] at h; exact .inl h
    ·exact .inr h
theorem Hl {G : Gd} (hG : G.Ok) {k : Nat} {a : Addr} {fo : Obj} {fd : FuncData} {body : List Stmt} {ps : List Str} (hfo : G.B.get? a = some fo) (hfd : fo.data = .func fd) (hcode : G.B.CodeRec fd.code fd.qualname) (hbody : fd.body = .stmts body) (hclo : fd.closure = [])
  (hgl : fd.globals = mainGlobals) (hbl : fd.builtins = builtinsNs) (hbind : ∀ vs : List Value, vs.length = ps.length → bindArgs fd ⟨vs, []⟩ = pure (ps.zip vs))
  (hps : ∀ x ∈ ps, fd.scope.names.lookup x = some .local ∨ fd.scope.names.lookup x = some .cell) (hpn : ps.Nodup) (hnd : (Qf fd.scope).Nodup) (hkind : fd.scope.kind = .function) (hco : fd.scope.isCoroutine = false) (hgen : fd.scope.isGenerator = false)
  {A : Around} {fs : List Env} {S : Addr → Prop} {s : Shared} {vs : List Value} {ds : List D} {R : Result → Shared → Prop} (room : Bt A (k + 1)) (fr : A.frames = some fs) (hd : G.quiet = true → A.handled = none) (hok : ∀ v, A.handled = some v → ∃ C, RV S s.heap v (.exc C)) (ff : FF G.B s.heap fs) (hB : G.B.StaysIn s.heap) (sd : Dg S s.heap) (rv : RVs S s.heap vs ds) (hlen : ds.length = ps.length)
  (h : ∀ (cx : Cx) (h₁ : Heap) (tk₁ : Nat), CxOk G cx fd.scope k → FnOk G cx → cx.h₀ = s.heap → cx.P = S → cx.fs.tail = fs → cx.env.frame = some cx.env.locals → Rel G cx fd.scope (ZM fd.scope ps ds) S h₁ → (∀ b o, s.heap.get? b = some o → h₁.get? b = some o) →
   wpAny G.M cx.A (execs body cx.env) (fun f s' => R (.ok (.ret (match f with | .ret v => v | _ => .none))) s') (fun e s' => wpAny G.M cx.A (leaving cx.env e) (fun _ s'' => R (.error e) s'') (fun e' s'' => R (.error e') s'') s') { s with heap := h₁, toks := tk₁ }) :
  codeAny G.M A (.call (.ref a) ⟨vs, []⟩) R s := by
 have hvl : vs.length = ps.length := rv.length.trans hlen
 refine codeAny_call_cells (fd := fd) (binds := ps.zip vs) (by have := room.1; unfold recursionLimit; lia) (hB _ _ hfo) hfd (hG.nolimit.keeps hB) (let ⟨c, o, ws, t, e1, e2, e3, e4⟩ := hcode; ⟨c, o, ws, t, e1, hB _ _ e2, e3, e4⟩) hbody (hbind vs hvl) hclo
  (fun x hx => ?_) (fun s₁ X => ?_) hco hgen hkind
 ·have hm : x.1 ∈ ps := by rw [← JX ps vs hvl]; exact List.mem_map_of_mem hx
  exact (hps _ hm).imp id fun q => ⟨q, Yd _ _ _ (.inl q)⟩
 have D1 := X.toInCall.done
 obtain ⟨h₁, tk₁, rfl, hk₁⟩ := D1
 have nd : ((ps.zip vs).map (·.1)).Nodup := by rw [JX ps vs hvl]; exact hpn
 have hLn : s.heap.get? s.heap.objs.size = none := Heap.get?_none_of_le (Nat.le_refl _)
 have hBn : G.B.get? s.heap.objs.size = none := by
  cases q : G.B.get? s.heap.objs.size with
  | none => rfl
  | some o => rw [hB _ _ q] at hLn; cases hLn
 let cx : Cx := { A := A.deeper (callEnvC fd s.heap.objs.size a), env := callEnvC fd s.heap.objs.size a, fs := callEnvC fd s.heap.objs.size a :: fs, h₀ := s.heap, P := S }
 have ok : CxOk G cx fd.scope k := { hsc := rfl, hk := hkind, hg := hgl, hb := hbl, fr := by show (A.deeper _).frames = _; unfold Around.deeper; rw [fr]; rfl, top := ⟨_, fs, rfl, rfl⟩, hd := hd, room := ⟨by have := room.1; show A.depth + 1 + k ≤ 900; exact omS this, by have := room.2; show A.units + 3 + 8 * k ≤ 9000; lia⟩, nodup := hnd, bh := hB }
 have above : ∀ x c, cx.env.cells.lookup x = some c → s.heap.objs.size < c := fun x c q => X.above x c (mem_of_lookup q)
 have fn : FnOk G cx := { bh := hB, lnew := hLn, cap := fun x y c q q' _ => name_of_addr X.apart (mem_of_lookup q) (mem_of_lookup q'), loc := fun x c q => Nat.ne_of_gt (above x c q), has := fun x q => let ⟨c, hc⟩ := Option.isSome_iff_exists.mp (Yd _ _ _ (.inl q)); ⟨c, hc, Heap.get?_none_of_le (Nat.le_of_lt (above x c hc))⟩ }
 have vals : ∀ y v, Var cx.env h₁ y v → v ∈ vs := fun y v q => by
  rcases q with ⟨q1, m, n, e⟩ | ⟨q1, c, q2, n⟩
  ·have := X.toInCall.ns.agree n y
   rw [e, OD _ _ _ _ nd, if_pos q1] at this
   cases hl : (ps.zip vs).lookup y with
   | none => rw [hl] at this; cases this
   | some w => rw [hl] at this; cases this; exact (KO hl).1
  ·have := IsCell.inj (X.cell y c q2) n
   rw [Oy _ _ _ _ nd, if_neg (by show ¬ cx.env.kindOf y = some .local; rcases q1 with q | q <;> (rw [q]; decide))] at this
   cases hl : (ps.zip vs).lookup y with
   | none => rw [hl] at this; cases this
   | some w => rw [hl] at this; cases this; exact (KO hl).1
 have r₀ : Rel G cx fd.scope (ZM fd.scope ps ds) S h₁ := {
  base := fun b o q => hk₁ b o (hB b o q)
  keep := Kp.of_keeps hk₁
  ff := fun env he => by
   rcases List.mem_cons.mp he with rfl | he
   ·obtain ⟨o, es, ep, q1, q2, _⟩ := X.toInCall.ns
    exact ⟨by show fd.scope.kind ≠ .module; rw [hkind]; decide, s.heap.objs.size, o, rfl, hBn, q1, es, ep, q2⟩
   ·exact ff.kp (Kp.of_keeps hk₁) env he
  ns := ⟨_, X.toInCall.ns⟩
  cells := fun x c q => ⟨_, X.cell x c q⟩
  sdom := fun b q => let ⟨o, e⟩ := sd b q; ⟨o, hk₁ b o e⟩
  sok := fun b q => .inl q
  sloc := fun q => by obtain ⟨o, e⟩ := sd _ q; rw [show cx.env.locals = s.heap.objs.size from rfl, hLn] at e; cases e
  scell := fun x c q q' => by obtain ⟨o, e⟩ := sd _ q'; rw [show s.heap.get? c = none from Heap.get?_none_of_le (Nat.le_of_lt (above x c q))] at e; cases e
  live := fun x b _ q => by
   obtain ⟨d, _, rvd⟩ := rv.mem (vals x _ q)
   obtain ⟨o, e⟩ := rvd.live b rfl
   exact ⟨o, hk₁ b o e⟩
  clean := fun i x m d hx hi => by
   unfold ZM at hi
   rw [List.getElem?_map, hx] at hi
   simp only [Option.map_some, Option.some.injEq] at hi
   cases hl : (ps.zip ds).lookup x with
   | none => rw [hl] at hi; cases hi
   | some d => rw [hl] at hi; cases hi
  hok := fun v q => let ⟨C, e⟩ := hok v q; ⟨C, e.ext (Ext.of_keeps hk₁)⟩
  vars := fun i x t hx ht => by
   unfold ZM at ht
   rw [List.getElem?_map, hx] at ht
   simp only [Option.map_some, Option.some.injEq] at ht
   cases hl : (ps.zip ds).lookup x with
   | none => rw [hl] at ht; cases ht
   | some d =>
    rw [hl] at ht; cases ht
    obtain ⟨v, hv, rvd⟩ := K3 rv hl
    refine ⟨v, ?_, rvd.ext (Ext.of_keeps hk₁)⟩
    rcases hps x (KO hv).2 with q | q
    ·refine .inl ⟨q, _, X.toInCall.ns, ?_⟩
     rw [OD _ _ _ _ nd, if_pos (show (callEnvC fd s.heap.objs.size a).kindOf x = some .local from q), hv]
    ·obtain ⟨c, hc⟩ := Option.isSome_iff_exists.mp (Yd fd.scope.names (s.heap.objs.size + 1) [] (.inl q) : ((cellsFrom (s.heap.objs.size + 1) fd.scope.names []).lookup x).isSome = true)
     refine .inr ⟨.inl q, c, hc, ?_⟩
     have := X.cell x c hc
     rw [Oy _ _ _ _ nd, if_neg (show ¬ (callEnvC fd s.heap.objs.size a).kindOf x = some .local from by rw [show (callEnvC fd s.heap.objs.size a).kindOf x = some .cell from q]; decide), hv] at this
     exact this
  inj := fun i j x y m m' d d' v hx hy hi hj _ _ => by
   unfold ZM at hi
   rw [List.getElem?_map, hx] at hi
   simp only [Option.map_some, Option.some.injEq] at hi
   cases hl : (ps.zip ds).lookup x with
   | none => rw [hl] at hi; cases hi
   | some d => rw [hl] at hi; cases hi
  dok := fun i x m ks es hx hi => by
   unfold ZM at hi
   rw [List.getElem?_map, hx] at hi
   simp only [Option.map_some, Option.some.injEq] at hi
   cases hl : (ps.zip ds).lookup x with
   | none => rw [hl] at hi; cases hi
   | some d => rw [hl] at hi; cases hi }
 exact h cx h₁ tk₁ ok fn rfl rfl rfl rfl r₀ hk₁
set_option tactic.hygienic true in
theorem Id {G : Gd} (hG : G.Ok) {k : Nat} {a : Addr} {fo : Obj} {fd : FuncData} {body : List Stmt} {f : AEnv → Res Fl} {ps : List Str} (hfo : G.B.get? a = some fo) (hfd : fo.data = .func fd) (hcode : G.B.CodeRec fd.code fd.qualname) (hbody : fd.body = .stmts body) (hclo : fd.closure = [])
  (hgl : fd.globals = mainGlobals) (hbl : fd.builtins = builtinsNs) (hbind : ∀ vs : List Value, vs.length = ps.length → bindArgs fd ⟨vs, []⟩ = pure (ps.zip vs))
  (hps : ∀ x ∈ ps, fd.scope.names.lookup x = some .local ∨ fd.scope.names.lookup x = some .cell) (hpn : ps.Nodup) (hnd : (Qf fd.scope).Nodup) (hkind : fd.scope.kind = .function) (hco : fd.scope.isCoroutine = false) (hgen : fd.scope.isGenerator = false)
  (h : Wa G k fd.scope body f) : ZA G (k + 1) (.ref a) (G2 fd.scope ps f) := by
 intro A fs S s vs ds room fr hd hok ff hB sd rv R fin
 unfold G2 at fin
 split at fin
 rotate_left
 ·exact fin.elim
 rename_i hlen
 refine Hl hG (body := body) (ps := ps) hfo hfd hcode hbody hclo hgl hbl hbind hps hpn hnd hkind hco hgen room fr hd hok ff hB sd rv hlen fun cx h₁ tk₁ ok fn e₀ eP _ _ r₀ hk₁ => ?_
 refine h cx ok fn (ZM fd.scope ps ds) S { s with heap := h₁, toks := tk₁ } r₀ _ _ ?_
 cases hf : f (ZM fd.scope ps ds) with
 | stuck => rw [hf] at fin; exact fin.elim
 | exc C ρ' =>
  rw [hf] at fin
  intro e h₂ t₂ S₂ r₂ f₂ x₂
  refine Oc (B := G.B) (h := h₁) (s := { s with heap := h₂, toks := t₂ }) ok.fr r₂.ff ok.top f₂ x₂.dom fun h₃ k₃ f₃ => ?_
  have r₃ := r₀.kpE r₂ k₃ f₂ f₃
  refine fin e h₃ t₂ (e₀ ▸ r₃.keep) r₃.base ?_
  obtain ⟨n, oe, ws, T, oT, ts, a1, a2, a0, a3, a4, a5, a6, a7, a8, a9, a10, a11⟩ := f₃
  have back : ∀ b, h₁.get? b = none → s.heap.get? b = none := fun b q => by
   cases q' : s.heap.get? b with
   | none => rfl
   | some o => rw [hk₁ b o q'] at q; cases q
  exact ⟨back e n, oe, ws, T, oT, ts, a1, a2, a0, a3, a4, a5, a6, back T a7, a8, a9, a10, a11⟩
 | ok fl ρ' =>
  rw [hf] at fin
  intro v h₂ t₂ S₂ r₂ j₂ x₂ _
  have back : ∀ b, S₂ b → S b ∨ s.heap.get? b = none := by have := r₂.sok; rw [e₀, eP] at this; exact this
  cases v <;> cases fl <;> first
   | exact j₂.elim
   | exact fin.elim
   | exact fin .none h₂ t₂ S₂ (e₀ ▸ r₂.keep) r₂.base x₂.sub back r₂.sdom .none
   | skip
  rename_i v t
  refine fin v h₂ t₂ S₂ (e₀ ▸ r₂.keep) r₂.base x₂.sub back r₂.sdom ?_
  cases t with
  | sh d => exact j₂
  | ow m d => obtain ⟨b, e, n1, ow, n2⟩ := j₂; exact ⟨b, e, e₀ ▸ n2, n1, ow⟩
inductive BVals (cx : Cx) (sc : Scope) (S : Addr → Prop) (h : Heap) : List Value → List Bv → Prop
 | nil : BVals cx sc S h [] []
 | cons {v : Value} {b : Bv} {vs : List Value} {bs : List Bv} : ZT cx sc S h v b → BVals cx sc S h vs bs → BVals cx sc S h (v :: vs) (b :: bs)
noncomputable def Ji (G : Gd) (k : Nat) (sc : Scope) (es : List Expr) (f : AEnv → Res (List Bv)) : Prop :=
 ∀ pos cx, CxOk G cx sc k → ∀ ρ S s, Rel G cx sc ρ S s.heap → Qk G cx sc true (spliced (backTo pos (starEach es cx.env))) S s (fun S' h' vs bs => BVals cx sc S' h' vs bs) (f ρ)
noncomputable def Qi : AEnv → Res (List Bv) := fun ρ => .ok [] ρ
noncomputable def Qb (f : AEnv → Res Bv) (g : AEnv → Res (List Bv)) : AEnv → Res (List Bv) := fun ρ => (f ρ).bind fun b ρ₁ => (g ρ₁).bind fun bs ρ₂ => .ok (b :: bs) ρ₂
theorem Qd {G : Gd} {k : Nat} {sc : Scope} : Ji G k sc [] Qi := fun _ _ _ _ _ _ r => Qk.pure r .nil
theorem De {G : Gd} {k : Nat} {sc : Scope} {e : Expr} {rest : List Expr} {f : AEnv → Res Bv} {g : AEnv → Res (List Bv)} (he : Qh G k sc e f) (hr : Ji G k sc rest g) (hs : QS e = true) : Ji G k sc (e :: rest) (Qb f g) := by
 intro pos cx ok ρ S s r
 rw [Yj hs]
 refine Qk.bind (he cx ok ρ S s r) fun b ρ₁ v h₁ t₁ S₁ _ r₁ j₁ x₁ v₁ => ?_
 intro Q E out
 refine wpAny_bind (wpAny_pure ?_)
 refine (Qk.bind (J' := fun S' h' vs bs => BVals cx sc S' h' vs bs) (Qk.holding (hr pos cx ok ρ₁ S₁ { s with heap := h₁, toks := t₁ } r₁)) fun bs ρ₂ vs h₂ t₂ S₂ _ r₂ j₂ x₂ v₂ => ?_) Q E out
 exact Qk.pure r₂ (.cons (ZT.ext j₁ x₂ (v₂ rfl)) j₂)
noncomputable def XN (ρ : AEnv) : List Bv → Option (List D)
 | [] => some []
 | b :: bs => match b.get ρ, XN ρ bs with
  | some d, some ds => some (d :: ds)
  | _, _ => none
noncomputable def ZK (ρ : AEnv) : Bv → Bool
 | .val _ => true
 | .var i => match ρ[i]? with
  | some (some (.sh _)) => true
  | _ => false
mutual
noncomputable def XS : D → Bool
 | .list _ => false
 | .obj _ _ _ => false
 | .tup ds => Xv ds
 | _ => true
noncomputable def Xv : List D → Bool
 | [] => true
 | d :: ds => XS d && Xv ds
end
theorem RV.free {S S' : Addr → Prop} {h : Heap} {v : Value} {d : D} (q : RV S h v d) : XS d = true → RV S' h v d :=
 RV.rec (motive_1 := fun v d _ => XS d = true → RV S' h v d) (motive_2 := fun vs ds _ => Xv ds = true → RVs S' h vs ds) (fun _ => .none) (fun b _ => .bool b) (fun i t _ => .int i t) (fun y t _ => .str y t) (fun e hc hd _ r q => .tup e hc hd (r (by rw [XS] at q; exact q)))
  (fun _ _ _ _ _ _ q => by rw [XS] at q; cases q) (fun e _ => .range e) (fun e hc hn hd r _ => .exc e hc hn hd r) (fun v hv _ => .glob v hv) (fun _ _ _ _ _ _ _ q => by rw [XS] at q; cases q) (fun _ => .nil)
  (fun _ _ a b e => by rw [Xv] at e; obtain ⟨e1, e2⟩ := Bool.and_eq_true_iff.mp e; exact .cons (a e1) (b e2)) q
section
variable {G : Gd} {cx : Cx} {sc : Scope} {ρ : AEnv} {S S' : Addr → Prop} {h h' : Heap}
set_option tactic.hygienic true in
theorem BVals.rvs {vs : List Value} {bs : List Bv} (q : BVals cx sc S h vs bs) (r : Rel G cx sc ρ S h) (hs : bs.all (ZK ρ) = true) : ∀ {ds : List D}, XN ρ bs = some ds → RVs S h vs ds := by
 induction q with
 | nil => intro ds e; cases e; exact .nil
 | cons hb _ ih =>
  intro ds e
  rename_i v b vs bs _
  rw [XN] at e
  rw [List.all_cons, Bool.and_eq_true_iff] at hs
  split at e
  ·rename_i d ds' hd hds
   cases e
   refine .cons ?_ (ih hs.2 hds)
   cases b with
   | val d' => cases hd; exact hb
   | var i =>
    obtain ⟨y, hy, hv⟩ := hb
    have h1 := hs.1
    simp only [ZK] at h1
    simp only [Bv.get] at hd
    split at h1
    ·rename_i d' ht
     rw [ht] at hd
     cases hd
     obtain ⟨w, hw, tv⟩ := r.vars i y _ hy ht
     rw [Var.inj hv hw]; exact tv
    ·cases h1
  ·cases e
set_option tactic.hygienic true in
theorem BVals.dom {vs : List Value} {bs : List Bv} (q : BVals cx sc S h vs bs) (r : Rel G cx sc ρ S h) : ∀ {ds : List D}, XN ρ bs = some ds → RVs (fun b => ∃ o, h.get? b = some o) h vs ds := by
 induction q with
 | nil => intro ds e; cases e; exact .nil
 | cons hb _ ih =>
  intro ds e
  rename_i v b vs bs _
  rw [XN] at e
  split at e
  ·rename_i d ds' hd hds
   cases e
   refine .cons ?_ (ih hds)
   cases hb.rb r hd with
   | of q => exact q.ext (Ext.grow r.sdom)
   | own q =>
    unfold XM at q
    split at q
    ·obtain ⟨vs, n, e, rv⟩ := q; exact .list ⟨_, e⟩ e ⟨rfl, rfl, rfl⟩ rfl (rv.ext (Ext.grow r.sdom))
    ·exact q.elim
  ·cases e
theorem Rel.kpS (r : Rel G cx sc ρ S h) (k : Kp h h') (hb : G.B.StaysIn h') (sub : ∀ b, S b → S' b) (new : ∀ b, S' b → S b ∨ h.get? b = none) (sd : Dg S' h') : Rel G cx sc ρ S' h' ∧ Ext S h S' h' := by
 have x : Ext S h S' h' := ⟨sub, fun b o e _ => k b o e, fun b o e => k.dom e⟩
 have r' := r.kp k hb
 refine ⟨⟨hb, r'.keep, r'.ff, r'.ns, r'.cells, sd, fun b q => ?_, fun q => ?_, fun y c e q => ?_, r'.live, r'.clean, fun v q => let ⟨C, e⟩ := r.hok v q; ⟨C, e.ext x⟩, fun i y t hy ht => ?_, r'.inj, r'.dok⟩, x⟩
 ·exact (new b q).elim (r.sok b) fun q => .inr (r.keep.none q)
 ·rcases new _ q with q | q
  ·exact r.sloc q
  ·obtain ⟨m, o, _, _, e, _⟩ := r.ns; rw [q] at e; cases e
 ·rcases new _ q with q | q
  ·exact r.scell y c e q
  ·obtain ⟨v, o, e', _⟩ := r.cells y c e; rw [q] at e'; cases e'
 ·obtain ⟨v, hv, tv⟩ := r.vars i y t hy ht
  refine ⟨v, hv.kp k, ?_⟩
  cases t with
  | sh d => exact RV.ext x tv
  | ow m d =>
   obtain ⟨a, rfl, n1, ow, n2⟩ := tv
   obtain ⟨o, ho, _⟩ := ow.live
   refine ⟨a, rfl, fun q => ?_, ow.ext x fun o' e' => k a o' e', n2⟩
   rcases new _ q with q | q
   ·exact n1 q
   ·rw [q] at ho; cases ho
end
noncomputable def Yl (bs : List Bv) (ρ : AEnv) : FOut → Res T
 | .ok t => if bs.all (ZK ρ) then .ok t ρ else if XS t.val then .ok (.sh t.val) ρ else .stuck
 | .exc C => .exc C ρ
 | .stuck => .stuck
noncomputable def Qy (F : List D → FOut) (fa : AEnv → Res (List Bv)) : AEnv → Res T := fun ρ => (fa ρ).bind fun bs ρ₁ => ob (XN ρ₁ bs) fun ds => Yl bs ρ₁ (F ds)
section
variable {G : Gd} {k : Nat} {sc : Scope}
set_option tactic.hygienic true in
theorem On {cx : Cx} {ρ : AEnv} {S : Addr → Prop} {s : Shared} {g : Value} {F : List D → FOut} {vs : List Value} {bs : List Bv} {ds : List D} {k' : Nat} (hF : ZA G k' g F) (ok : CxOk G cx sc k) (hk : k' ≤ k) (r : Rel G cx sc ρ S s.heap) (q : BVals cx sc S s.heap vs bs) (e : XN ρ bs = some ds) :
  Qk G cx sc true (call g vs []) S s (fun S' h' v t => Yp cx S' h' v t) (Yl bs ρ (F ds)) := by
 intro Q E out
 refine wpAny_call ?_
 by_cases hs : bs.all (ZK ρ) = true
 ·refine hF cx.A cx.fs S s vs ds (ok.room.mono hk) ok.fr ok.hd r.hok r.ff r.base r.sdom (q.rvs r hs e) _ ?_
  cases hf : F ds with
  | stuck => rw [hf] at out; exact out.elim
  | exc C =>
   rw [hf] at out
   intro ee h' tk kp hb fl
   exact out ee h' tk S (r.kp kp hb) fl.fly (Ext.of_kp kp)
  | ok t =>
   rw [hf] at out
   simp only [Yl] at out
   rw [if_pos hs] at out
   intro v h' tk S' kp hb sub new sd ret
   obtain ⟨r', x'⟩ := r.kpS kp hb sub new sd
   refine out v h' tk S' r' ?_ x' fun _ => r.same kp
   cases t with
   | sh d => exact ret
   | ow m d =>
    obtain ⟨a, rfl, n1, n2, ow⟩ := ret
    refine ⟨a, rfl, n2, ow, r.keep.none n1, fun x hdx hx => ?_⟩
    obtain ⟨o, ho⟩ := r.live x a hdx (Var.of_kp kp r.ns r.cells hx)
    rw [n1] at ho; cases ho
 ·refine hF cx.A cx.fs (fun b => ∃ o, s.heap.get? b = some o) s vs ds (ok.room.mono hk) ok.fr ok.hd (fun v q => let ⟨C, e⟩ := r.hok v q; ⟨C, e.ext (Ext.grow r.sdom)⟩) r.ff r.base (fun _ q => q) (q.dom r e) _ ?_
  cases hf : F ds with
  | stuck => rw [hf] at out; exact out.elim
  | exc C =>
   rw [hf] at out
   intro ee h' tk kp hb fl
   exact out ee h' tk S (r.kp kp hb) fl.fly (Ext.of_kp kp)
  | ok t =>
   rw [hf] at out
   simp only [Yl] at out
   rw [if_neg hs] at out
   split at out
   ·rename_i hfree
    intro v h' tk S' kp hb sub new sd ret
    refine out v h' tk S (r.kp kp hb) ?_ (Ext.of_kp kp) fun _ => r.same kp
    cases t with
    | sh d => exact RV.free ret hfree
    | ow m d =>
     obtain ⟨a, rfl, n1, n2, ow⟩ := ret
     exfalso
     unfold XM at ow
     split at ow
     ·simp [T.val, XS] at hfree
     ·exact ow
   ·exact out.elim
theorem X1 {M : Model} {A : Around} {E : Value → Shared → Prop} {s : Shared} {env : Env} {pos : Pos} {f : Value} {es : List Expr} {Q : Args → Shared → Prop} (hu : es.all QS = true)
  (h : wpAny M A (spliced (backTo pos (starEach es env))) (fun vs s' => Q ⟨vs, []⟩ s') E s) : wpAny M A (evalArgs f true (backTo pos (starEach es env)) []) Q E s := by
 cases es with
 | nil =>
  unfold evalArgs
  show wpAny M A (spliced [] >>= _) Q E s
  refine wpAny_bind (wpAny_mono h (fun vs s' h' => ?_) fun _ _ x => x)
  refine wpAny_holding ?_
  exact wpAny_bind (wpAny_pure (wpAny_bind (wpAny_pure (wpAny_pure h'))))
 | cons e rest =>
  rw [List.all_cons, Bool.and_eq_true_iff] at hu
  rw [Ym hu.1] at h ⊢
  exact Calls.evalArgs_plain h
theorem FA {g : Str} {p pos : Pos} {a : Addr} {fo : Obj} {fd : FuncData} {F : List D → FOut} {args : List Expr} {fa : AEnv → Res (List Bv)} {k' : Nat} (hn : Sim G k sc (.Name g p) (Qe (.glob (.ref a)))) (hfo : G.B.get? a = some fo) (hfd : fo.data = .func fd)
  (hF : ZA G k' (.ref a) F) (hk : k' ≤ k) (ha : Ji G k sc args fa) (hu : args.all QS = true) : Sim G k sc (.Call (.Name g p) args [] pos) (Qy F fa) := by
 intro cx ok ρ S s r Q E out
 show wpAny G.M cx.A (do callWith pos (← eval (.Name g p) cx.env) [] (backTo pos (starEach args cx.env)) []) Q E s
 refine wpAny_bind (hn cx ok ρ S s r _ _ ?_)
 intro v h₁ t₁ S₁ r₁ j₁ x₁ v₁
 have hv : v = .ref a := by cases j₁; rfl
 subst hv
 refine Calls.callWith_function (o := fo) (fd := fd) (X1 hu ?_)
 refine ha pos cx ok ρ S₁ { s with heap := h₁, toks := t₁ } r₁ _ _ ?_
 refine out.step (x₁) fun bs ρ' out vs h₂ t₂ S₂ r₂ j₂ x₂ v₂ => ?_
 refine ⟨⟨r₂.base _ _ hfo, hfd⟩, ?_⟩
 obtain ⟨ds, hds, out⟩ := out.ob
 exact On (s := { s with heap := h₂, toks := t₂ }) hF ok hk r₂ j₂ hds Q E (out.lift (x₁.trans x₂) fun q => (v₁ q).trans (v₂ q))
end
end Mine
end

section
namespace Mine
open PySem
inductive RBs (S : Addr → Prop) (h : Heap) : List Value → List D → Prop
 | nil : RBs S h [] []
 | cons {v : Value} {d : D} {vs : List Value} {ds : List D} : RB S h v d → RBs S h vs ds → RBs S h (v :: vs) (d :: ds)
set_option tactic.hygienic true in
theorem BVals.all {G : Gd} {cx : Cx} {sc : Scope} {ρ : AEnv} {S : Addr → Prop} {h : Heap} {vs : List Value} {bs : List Bv} (q : BVals cx sc S h vs bs) (r : Rel G cx sc ρ S h) : ∀ {ds : List D}, XN ρ bs = some ds → RBs S h vs ds := by
 induction q with
 | nil => intro ds e; cases e; exact .nil
 | cons hb _ ih =>
  intro ds e
  rw [XN] at e
  split at e
  ·rename_i d ds' hd hds
   cases e
   exact .cons (hb.rb r hd) (ih hds)
  ·cases e
noncomputable def OpN (G : Gd) (m : List Value → Sem Value) (F : List D → Option T) : Prop :=
 ∀ cx sc, CxOk G cx sc 0 → ∀ ρ S s vs ds t, Rel G cx sc ρ S s.heap → RBs S s.heap vs ds → F ds = some t → Qk G cx sc true (m vs) S s (fun S' h' v t => Yp cx S' h' v t) (.ok t ρ)
noncomputable def QX (F : List D → Option T) (fa : AEnv → Res (List Bv)) : AEnv → Res T := fun ρ => (fa ρ).bind fun bs ρ₁ => ob (XN ρ₁ bs) fun ds => ob (F ds) fun t => .ok t ρ₁
theorem ZQ {M : Model} {A : Around} {E : Value → Shared → Prop} {s : Shared} {pos : Pos} {f : Value} {first : List Value} {args : List (Bool × Sem Value)} {Q : Value → Shared → Prop} (hf : ∀ a, f ≠ .ref a) (hplain : args.any (·.1) = false)
  (h : wpAny M A (evalArgs f true args []) (fun a s₁ => wpAny M A (call f (first ++ a.pos) a.kw) Q E s₁) E s) : wpAny M A (callWith pos f first args []) Q E s := by
 unfold callWith
 refine wpAny_bind (wpAny_holding (wpAny_mono h (fun a s₁ h₁ => wpAny_bind (wpAny_standAt ?_)) fun _ _ x => x))
 simp only [hplain, List.any_nil, Bool.or_false]
 have hk : keeperOf f = pure .machine := by
  unfold keeperOf
  cases f <;> first | rfl | exact absurd rfl (hf _)
 rw [hk]
 refine wpAny_bind (wpAny_pure ?_)
 exact wpAny_bind (wpAny_mono h₁ (fun r s₂ hr => wpAny_bind (wpAny_holding (wpAny_point (wpAny_pure hr)))) fun _ _ x => x)
theorem YN {pos : Pos} {env : Env} : ∀ (es : List Expr), es.all QS = true → (backTo pos (starEach es env)).any (·.1) = false
 | [], _ => rfl
 | e :: r, h => by
  rw [List.all_cons, Bool.and_eq_true_iff] at h
  rw [Ym h.1]
  show (false || (backTo pos (starEach r env)).any (·.1)) = false
  rw [YN r h.2]; rfl
section
variable {G : Gd} {k : Nat} {sc : Scope}
theorem EP {g : Str} {p pos : Pos} {f : Value} {F : List D → Option T} {args : List Expr} {fa : AEnv → Res (List Bv)} (hn : Sim G k sc (.Name g p) (Qe (.glob f))) (hf : ∀ a, f ≠ .ref a) (hop : OpN G (fun vs => call f vs []) F)
  (ha : Ji G k sc args fa) (hu : args.all QS = true) : Sim G k sc (.Call (.Name g p) args [] pos) (QX F fa) := by
 intro cx ok ρ S s r Q E out
 show wpAny G.M cx.A (do callWith pos (← eval (.Name g p) cx.env) [] (backTo pos (starEach args cx.env)) []) Q E s
 refine wpAny_bind (hn cx ok ρ S s r _ _ ?_)
 intro v h₁ t₁ S₁ r₁ j₁ x₁ v₁
 have hv : v = f := by cases j₁; rfl
 subst hv
 refine ZQ hf (YN args hu) (X1 hu ?_)
 refine ha pos cx ok ρ S₁ { s with heap := h₁, toks := t₁ } r₁ _ _ ?_
 refine out.step (x₁) fun bs ρ' out vs h₂ t₂ S₂ r₂ j₂ x₂ v₂ => ?_
 obtain ⟨ds, hds, out⟩ := out.ob
 obtain ⟨t, ht, out⟩ := out.ob
 exact hop cx sc (ok.mono (Nat.zero_le _)) ρ' S₂ { s with heap := h₂, toks := t₂ } vs ds t r₂ (BVals.all j₂ r₂ hds) ht Q E (out.lift (x₁.trans x₂) fun q => (v₁ q).trans (v₂ q))
end
noncomputable def DW (K : W.Frag) : D → Value → Option Bool
 | .none, c => W.kitOne [] (.type "NoneType") c
 | .bool _, c => W.kitOne [] (.type "bool") c
 | .int _, c => W.kitOne [] (.type "int") c
 | .str _, c => W.kitOne [] (.type "str") c
 | .tup _, c => W.kitOne [] (.type "tuple") c
 | .list _, c => W.kitOne [] (.type "list") c
 | .exc C, c => if OI K C then W.kitOne K (.ref C) c else none
 | _, _ => none
noncomputable def QV (K : W.Frag) : List D → Option T
 | [x, .glob c] => (DW K x c).map fun b => .sh (.bool b)
 | _ => none
theorem CA {K : W.Frag} {ds : List D} {t : T} (e : QV K ds = some t) : ∃ x c, ds = [x, .glob c] ∧ (DW K x c).map (fun b => T.sh (.bool b)) = some t := by
 cases ds with
 | nil => exact nn e
 | cons x ds =>
  cases ds with
  | nil => exact nn e
  | cons y ds =>
   cases ds with
   | nil => cases y <;> first | exact ⟨_, _, rfl, e⟩ | exact nn e
   | cons z ds => cases y <;> exact nn e
theorem Q1 {G : Gd} (hG : G.Ok) : OpN G (fun vs => call (.builtin "isinstance") vs []) (QV G.K) := by
 intro cx sc ok ρ S s vs ds t rel q e Q E out
 obtain ⟨x, c, rfl, e⟩ := CA e
 ·obtain ⟨b, hb, rfl⟩ := Option.map_eq_some_iff.mp e
  cases q with
  | cons qx q =>
   cases q with
   | cons qc q =>
    cases q
    have hc := qc.rv fun _ e => by cases e
    cases hc
    have nil : W.Frag.In [] s.heap := fun _ _ e => by cases e
    have fin : ∀ tk, Q (.bool b) { s with toks := tk } := fun tk => Zh out rel (.bool _)
    cases x with
    | none => rw [qx.none]; exact W.kia_one W.kitx_none nil trivial hb (fun e => by cases e) fin
    | bool i => rw [qx.bool]; exact W.kia_one W.kitx_bool nil trivial hb (fun e => by cases e) fin
    | int i => obtain ⟨_, rfl⟩ := qx.int; exact W.kia_one W.kitx_int nil trivial hb (fun e => by cases e) fin
    | str i => obtain ⟨_, rfl⟩ := qx.str; exact W.kia_one W.kitx_str nil trivial hb (fun e => by cases e) fin
    | tup ds => obtain ⟨a, o, vs, n, rfl, h1, h2, _⟩ := qx.tup; exact W.kia_one W.kitx_tuple nil ⟨o, h1, h2⟩ hb (fun e => by cases e) fin
    | list ds => obtain ⟨a, o, vs, n, rfl, h1, h2, _⟩ := qx.list; exact W.kia_one W.kitx_list nil ⟨o, h1, h2⟩ hb (fun e => by cases e) fin
    | exc C =>
     have hb : (if OI G.K C = true then W.kitOne G.K (.ref C) c else none) = some b := hb
     by_cases ha : OI G.K C = true
     ·rw [if_pos ha] at hb
      have := qx.rv fun _ e => by cases e
      cases this with
      | exc h1 h2 h3 h4 h5 =>
       exact W.kia_one (BX ha) (hG.K.keeps rel.base) ⟨_, h1, h2, by unfold W.notCls; rw [h4], h3⟩ hb (fun e => by cases e) fin
     ·rw [if_neg ha] at hb; exact nn hb
    | range _ _ _ => exact nn hb
    | glob _ => exact nn hb
    | dict _ _ => exact nn hb
    | obj _ _ _ => exact nn hb
section
variable {G : Gd} {k : Nat} {sc : Scope}
end
section
variable {G : Gd} {k : Nat} {sc : Scope}
end
end Mine
end

section
namespace Mine
open PySem PyProof.Rows
noncomputable def DK (G : Gd) (k : Nat) (sc : Scope) (op : BoolOp) (es : List Expr) (f : AEnv → Res T) : Prop :=
 ∀ pos cx, CxOk G cx sc k → ∀ ρ S s, Rel G cx sc ρ S s.heap → Qk G cx sc true (boolOp pos op (evalEach es cx.env)) S s (fun S' h' v t => Yp cx S' h' v t) (f ρ)
noncomputable def Io : BoolOp → Bool
 | .And => true
 | .Or => false
noncomputable def eBo (op : BoolOp) (f : AEnv → Res Bv) (g : AEnv → Res T) : AEnv → Res T := fun ρ => (f ρ).bind fun a ρ₁ => ob (a.get ρ₁) fun x => ob (asB x) fun b => if b == Io op then g ρ₁ else .ok (.sh (.bool b)) ρ₁
section
variable {G : Gd} {k : Nat} {sc : Scope} {op : BoolOp}
theorem Vl {x : Expr} {f : AEnv → Res T} (h : Sim G k sc x f) : DK G k sc op [x] f := fun _ cx ok ρ S s r => h cx ok ρ S s r
theorem Ot {x y : Expr} {rest : List Expr} {f : AEnv → Res Bv} {g : AEnv → Res T} (hx : Qh G k sc x f) (hr : DK G k sc op (y :: rest) g) : DK G k sc op (x :: y :: rest) (eBo op f g) := by
 intro pos cx ok ρ S s r
 show Qk G cx sc true (do
  let v ← eval x cx.env
  standAt pos
  let t ← holding [v] (truthy v)
  match op, t with
  | .And, false | .Or, true => pure v
  | _, _ => boolOp pos op (evalEach (y :: rest) cx.env)) S s _ _
 refine Qk.bind (hx cx ok ρ S s r) fun a ρ₁ va h₁ t₁ S₁ _ r₁ ja x₁ v₁ => ?_
 refine Qk.standAt (Qk.ob fun d hd => Qk.ob fun b hb => ?_)
 obtain rfl := KR hb
 obtain rfl := (ZT.rb ja r₁ hd).bool
 intro Q E out
 refine wpAny_bind (wpAny_holding (wpAny_truthy_bool ?_))
 cases op <;> cases b
 ·exact wpAny_pure (out _ h₁ t₁ S₁ r₁ (.bool _) (Ext.refl ..) fun _ => Qq.refl _ _)
 ·exact hr pos cx ok ρ₁ S₁ _ r₁ Q E out
 ·exact hr pos cx ok ρ₁ S₁ _ r₁ Q E out
 ·exact wpAny_pure (out _ h₁ t₁ S₁ r₁ (.bool _) (Ext.refl ..) fun _ => Qq.refl _ _)
theorem ON {es : List Expr} {pos : Pos} {f : AEnv → Res T} (h : DK G k sc op es f) : Sim G k sc (.BoolOp op es pos) f := fun cx ok ρ S s r => h pos cx ok ρ S s r
end
noncomputable def Ht : D → Option T
 | .bool b => some (.sh (.bool !b))
 | _ => none
theorem HW {G : Gd} : Op1 G (unaryOp .Not) Ht := by
 intro cx sc ok ρ S s v x t rel rx e Q E out
 unfold Ht at e; split at e
 ·cases e; rw [rx.bool]
  exact not_value (wpAny_truthy_bool (Zh out rel (tk := s.toks) (.bool _)))
 ·cases e
theorem O3 {G : Gd} {k : Nat} {sc : Scope} {pos : Pos} {x : Str} {i : Int} {t : Tok} (hG : G.Ok) (hx : sc.names.lookup x = some .globalImplicit) (hv : G.mg x = some (.int i t)) (hd : (x == ("__debug__" : Str)) = false) : Sim G k sc (.Name x pos) (Qe (.int i)) := by
 intro cx ok ρ S s r Q E out
 refine Calls.Name_function_global (by rw [ok.hsc]; exact ok.hk) (by unfold Env.kindOf; rw [ok.hsc]; exact hx) (Calls.loadGlobal_global (mg := G.mg) (by rw [ok.hg]; exact hG.g.keeps r.base) hv ?_) hd
 exact out _ s.heap s.toks _ r (.int i t) (Ext.refl ..) fun _ => Qq.refl _ _
noncomputable def CP (ds : List D) (i : Int) : Option D := if 0 ≤ i then (if i < 2 ^ 63 then ds[i.toNat]? else none) else if -(2 ^ 63) ≤ i ∧ -(ds.length : Int) ≤ i then ds[(i + ds.length).toNat]? else none
noncomputable def QY : D → D → Option T
 | .tup ds, .int i => (CP ds i).map .sh
 | .list ds, .int i => (CP ds i).map .sh
 | _, _ => none
theorem Bp {i : Int} {n : Nat} (h0 : 0 ≤ i) (h1 : i < n) : seqIndex? i n = some i.toNat := by
 unfold seqIndex?
 have h2 : ¬ (i < 0) := by exact Int.not_lt.mpr h0
 simp only [h2, if_false]
 rw [if_pos (by simp only [Bool.and_eq_true, decide_eq_true_eq]; lia)]
set_option tactic.hygienic true in
theorem B0 {S : Addr → Prop} {h : Heap} {vs : Array Value} {ds : List D} {i : Int} {d : D} (q : RVs S h vs.toList ds) (e : CP ds i = some d) :
  ∃ v, RV S h v d ∧ -(2 ^ 63) ≤ i ∧ i < 2 ^ 63 ∧ ((0 ≤ i ∧ vs[i.toNat]? = some v ∧ seqIndex? i vs.size = some i.toNat) ∨ (i < 0 ∧ -(vs.size : Int) ≤ i ∧ vs[(i + vs.size).toNat]? = some v ∧ seqIndex? i vs.size = some (i + vs.size).toNat)) := by
 have hl : vs.size = ds.length := by rw [← q.length]; simp
 unfold CP at e
 split at e
 ·split at e
  ·obtain ⟨v, hv, rv⟩ := q.get e
   have hv' : vs[i.toNat]? = some v := by simpa using hv
   have := (Array.getElem?_eq_some_iff.mp hv').1
   refine ⟨v, rv, by lia, by omega, .inl ⟨by omega, hv', Bp (by omega) (by lia)⟩⟩
  ·cases e
 ·split at e
  ·rename_i hn hb
   obtain ⟨v, hv, rv⟩ := q.get e
   refine ⟨v, rv, hb.1, by lia, .inr ⟨by exact Int.not_le.mp hn, by lia, by rw [hl]; simpa using hv, seqIndex_neg (by exact Int.not_le.mp hn) (by lia)⟩⟩
  ·cases e
theorem Fv {x y : D} {t : T} (e : QY x y = some t) : ∃ ds i d, (y = .int i ∧ (x = .tup ds ∨ x = .list ds)) ∧ CP ds i = some d ∧ t = .sh d := by
 cases x with
 | tup ds =>
  cases y with
  | int i => obtain ⟨d, h, q⟩ := Option.map_eq_some_iff.mp e; exact ⟨ds, i, d, ⟨rfl, .inl rfl⟩, h, q.symm⟩
  | _ => exact nn e
 | list ds =>
  cases y with
  | int i => obtain ⟨d, h, q⟩ := Option.map_eq_some_iff.mp e; exact ⟨ds, i, d, ⟨rfl, .inr rfl⟩, h, q.symm⟩
  | _ => exact nn e
 | _ => exact nn e
theorem O7 {G : Gd} {k : Nat} {sc : Scope} {value slice : Expr} {pos : Pos} {f g : AEnv → Res Bv} (hl : Qh G k sc value f) (hr : Qh G k sc slice g) (hs : ∀ o i, subscripted slice false o i = operate [o, i] (getItem o i)) :
  Sim G k sc (.Subscript value slice pos) (Qr QY f g) := by
 intro cx ok ρ S s rel
 show Qk G cx sc true (do let a ← eval value cx.env; let b ← holding [a] (eval slice cx.env); standAt pos; subscriptTail value slice a b) S s _ _
 refine WF (K := fun x y ρ₂ => ob (QY x y) fun t => .ok t ρ₂) hl hr ok rel fun ρ' S' h' tk v w x y rel' rx ry => ?_
 refine Qk.standAt (Qk.ob fun t ht => ?_)
 intro Q E out
 obtain ⟨ds, i, d, hxy, hd, rfl⟩ := Fv ht
 obtain ⟨u, rfl⟩ := RB.int (hxy.1 ▸ ry)
 rcases hxy.2 with rfl | rfl
 ·obtain ⟨a, o, vs, n, rfl, h1, h2, h3, q⟩ := rx.tup
  obtain ⟨y, rv, b1, b2, hy⟩ := B0 q hd
  have it : IsTup h' a vs := ⟨o, h1, h2, n, h3⟩
  have fin := out y h' tk S' rel' rv (Ext.refl ..) fun _ => Qq.refl _ _
  refine tail_any (s := { s with heap := h', toks := tk }) it.typeIs slot_tuple_getitem.lookup ?_ (hs _ _)
  rcases hy with ⟨_, e1, e2⟩ | ⟨_, _, e1, e2⟩
  ·exact getItem_tuple it b1 b2 e2 e1 fin
  ·exact getItem_tuple it b1 b2 e2 e1 fin
 ·obtain ⟨a, o, vs, n, rfl, h1, h2, h3, q⟩ := rx.list
  obtain ⟨y, rv, b1, b2, hy⟩ := B0 q hd
  have it : h'.IsList a vs := ⟨o, h1, h2, n, h3⟩
  have fin := out y h' tk S' rel' rv (Ext.refl ..) fun _ => Qq.refl _ _
  refine tail_any (s := { s with heap := h', toks := tk }) it.typeIs slot_list_getitem.lookup ?_ (hs _ _)
  rcases hy with ⟨e0, e1, _⟩ | ⟨e0, e0', e1, _⟩
  ·exact wpAny_getItem_list it e0 b2 e1 fin
  ·exact wpAny_getItem_list_neg it e0 e0' b1 e1 fin
noncomputable def Ke (ds : List D) (lo hi : Option Int) : List D := (ds.drop (lo.elim 0 (clipAt ds.length))).take (hi.elim ds.length (clipAt ds.length) - lo.elim 0 (clipAt ds.length))
noncomputable def Uk (x : D) (lo hi : Option Int) : Option T := match x with
 | .tup ds => if ds.length ≤ 1000000 then some (.sh (.tup (Ke ds lo hi))) else none
 | .list ds => if ds.length ≤ 1000000 then some (.ow true (.list (Ke ds lo hi))) else none
 | _ => none
noncomputable def G7 (G : Gd) (k : Nat) (sc : Scope) (e : Option Expr) (f : AEnv → Res (Option Int)) : Prop :=
 ∀ cx, CxOk G cx sc k → ∀ ρ S s, Rel G cx sc ρ S s.heap → Qk G cx sc true (evalPart e cx.env) S s (fun _ _ v b => IsPart v b) (f ρ)
noncomputable def XY : AEnv → Res (Option Int) := fun ρ => .ok none ρ
noncomputable def YQ (f : AEnv → Res Bv) : AEnv → Res (Option Int) := fun ρ => (f ρ).bind fun a ρ₁ => ob ((a.get ρ₁).bind asI) fun i => .ok (some i) ρ₁
theorem Z0 {G : Gd} {k : Nat} {sc : Scope} : G7 G k sc none XY := fun _ _ _ _ _ r => Qk.pure r .none
theorem Z9 {G : Gd} {k : Nat} {sc : Scope} {e : Expr} {f : AEnv → Res Bv} (h : Qh G k sc e f) : G7 G k sc (some e) (YQ f) := by
 intro cx ok ρ S s r Q E out
 refine h cx ok ρ S s r Q E ?_
 refine out.step0 fun a ρ' out v h' tk S' rel j x vs => ?_
 obtain ⟨i, hi, out⟩ := out.ob
 obtain ⟨t, rfl⟩ := (ZT.rb j rel (IB hi)).int
 exact out _ h' tk S' rel (.int i t) x vs
theorem Bj (lo hi : Option Int) (n : Nat) : Builtin.Slice.sliceAdjust lo hi 1 (n : Int) = (((lo.elim 0 (clipAt n) : Nat) : Int), ((hi.elim n (clipAt n) : Nat) : Int)) := by
 have h1 : ¬ ((1 : Int) < 0) := by decide
 unfold Builtin.Slice.sliceAdjust
 have clip : ∀ v : Int, (if v < 0 then max (v + (n : Int)) 0 else min v (n : Int)) = ((clipAt n v : Nat) : Int) := fun v => by
  rw [clipAt_cast]; split <;> lia
 simp only [h1, if_false, clip]
 cases lo <;> cases hi <;> simp
theorem VZ (a b : Nat) : Builtin.Slice.slicePlaces (a : Int) (b : Int) 1 = b - a := by
 unfold Builtin.Slice.slicePlaces
 have h1 : (1 : Int) > 0 := by exact Int.ofNat_nonneg _
 simp only [h1, if_true, Int.ediv_one]
 split <;> omega
section
variable {prog : Program} {w : World} {A : Around} {E : Value → Shared → Prop} {s : Shared}
theorem U1 {v : Value} {p : Option Int} {Q : Option Int → Shared → Prop} (hv : IsPart v p) (h : Q p s) : wpAny (model prog w) A (Builtin.Slice.slicePartIndex v) Q E s := by
 cases hv with
 | none => exact slicePart_none h
 | int i t => exact slicePart_int h
theorem Wk {sl : Addr} {vl vu : Value} {lo hi : Option Int} {n : Nat} {Q : Int × Int × Nat → Shared → Prop} (hs : s.heap.IsSliceOf sl vl vu .none) (pl : IsPart vl lo) (pu : IsPart vu hi)
  (h : Q (((lo.elim 0 (clipAt n) : Nat) : Int), 1, hi.elim n (clipAt n) - lo.elim 0 (clipAt n)) s) :
  wpAny (model prog w) A (Builtin.Slice.sliceApplied (.ref sl) (pure (n : Int))) Q E s := by
 obtain ⟨os, hos, hcs, hds⟩ := id hs
 unfold Builtin.Slice.sliceApplied Builtin.Slice.sliceFields
 refine wpAny_bind (wpAny_bind (wpAny_field hos hds (x := vl) rfl (wpAny_bind (wpAny_field hos hds (x := vu) rfl (wpAny_bind (wpAny_field hos hds (x := .none) rfl (wpAny_pure ?_)))))))
 refine wpAny_bind (slicePart_none ?_)
 show wpAny _ _ (if ((1 : Int) == 0) = true then _ else _) _ _ s
 rw [if_neg (by decide)]
 refine wpAny_bind (U1 pl (wpAny_bind (U1 pu (wpAny_bind (wpAny_pure ?_)))))
 show wpAny _ _ (match Builtin.Slice.sliceAdjust lo hi 1 (n : Int) with | (lo, hi) => pure (lo, (1 : Int), Builtin.Slice.slicePlaces lo hi 1)) _ _ s
 rw [Bj]
 show wpAny _ _ (pure (_, (1 : Int), Builtin.Slice.slicePlaces _ _ 1)) _ _ s
 rw [VZ]
 exact wpAny_pure h
theorem CZ (xs : Array Value) (a k : Nat) : ((List.range k).filterMap fun (j : Nat) => xs[((a : Int) + (j : Int) * 1).toNat]?).toArray = ((xs.toList.drop a).take k).toArray := by
 have e : (fun (k : Nat) => xs[((a : Int) + (k : Int) * 1).toNat]?) = fun k => xs[a + k]? := by
  funext k
  have : ((a : Int) + (k : Int) * 1).toNat = a + k := by exact (Nat.add_assoc _ _ _).symm
  rw [this]
 rw [e]
 have := pick_run xs a k
 rw [List.filterMap_map] at this
 have e2 : ((fun x => xs[x]?) ∘ fun x => a + x) = fun k => xs[a + k]? := rfl
 rw [e2] at this
 rw [this]
theorem UX {t sl : Addr} {items : Array Value} {vl vu : Value} {lo hi : Option Int} {Q : Value → Shared → Prop} (ht : IsTup s.heap t items) (hs : s.heap.IsSliceOf sl vl vu .none) (pl : IsPart vl lo) (pu : IsPart vu hi)
  (h0 : (items.toList.drop (lo.elim 0 (clipAt items.size))).take (hi.elim items.size (clipAt items.size) - lo.elim 0 (clipAt items.size)) = items.toList → Q (.ref t) s)
  (h : Q (.ref s.heap.objs.size) { s with heap := s.heap.push { cls := .type "tuple", data := .seq ((items.toList.drop (lo.elim 0 (clipAt items.size))).take (hi.elim items.size (clipAt items.size) - lo.elim 0 (clipAt items.size))).toArray } })
  (hsz : items.size ≤ sizeLine) : wpAny (model prog w) A (getItem (.ref t) (.ref sl)) Q E s := by
 have hdrop : sizeOk (.seq ((items.toList.drop (lo.elim 0 (clipAt items.size))).take (hi.elim items.size (clipAt items.size) - lo.elim 0 (clipAt items.size))).toArray) := by
  show _ ≤ sizeLine
  rw [List.size_toArray, List.length_take, List.length_drop, Array.length_toList]
  lia
 obtain ⟨os, hos, hcs, hds⟩ := id hs
 have hTs : s.TypeIs (.ref sl) "slice" := ⟨os, hos, hcs⟩
 unfold getItem
 try with_reducible refine wpAny_holding ?_
 first | refine wpAny_bind (wpAny_pure ?_) | skip
 refine wpAny_bind (wpAny_sequenceKey ht.typeIs (by decide) ?_)
 refine wpAny_bind (wpAny_callSpecial?_slot (name := Str.ofString "__getitem__") ht.typeIs slot_tuple_getitem
  (wpAny_call_entry slot_tuple_getitem ht.typeIs entry_tuple_getitem ?_ (args_tuple_getitem _ _)))
 show wpAny _ _ (Builtin.Tuple.tupleItemsOf (.ref t) >>= _) _ _ s
 refine wpAny_bind (tupleItemsOf_ ht ?_)
 refine wpAny_bind (wpAny_typeOf hTs ?_)
 rw [if_pos (by decide)]
 refine wpAny_bind (Wk hs pl pu ?_)
 generalize ha : (lo.elim 0 (clipAt items.size) : Nat) = a at *
 generalize hk : hi.elim items.size (clipAt items.size) - a = k at *
 show wpAny _ _ (if ((a : Int) == 0 && (1 : Int) == 1 && k == items.size) = true then _ else _) _ _ s
 by_cases hw : ((a : Int) == 0 && (1 : Int) == 1 && k == items.size) = true
 ·rw [if_pos hw]
  simp only [Bool.and_eq_true, beq_iff_eq] at hw
  have ha0 : a = 0 := by lia
  have hq : Q (.ref t) s := h0 (by rw [ha0, hw.2, List.drop_zero]; exact List.take_of_length_le (by simp))
  obtain ⟨o, ho, hc, n, hd⟩ := id ht
  refine wpAny_bind (m := Builtin.Tuple.tupleIsExact _) ?_
  unfold Builtin.Tuple.tupleIsExact
  refine wpAny_bind (wpAny_typeOf ht.typeIs (wpAny_pure ?_))
  rw [if_pos (by decide)]
  refine wpAny_bind (wpAny_rule ?_)
  exact wpAny_pure ⟨_, rfl, wpAny_pure hq⟩
 ·rw [if_neg hw, CZ items a k]
  first
   | exact wpAny_bind (m := Builtin.Tuple.tupleExact _) (wpAny_newObj_type (wpAny_pure ⟨_, rfl, wpAny_pure h⟩) hdrop)
   | exact wpAny_bind (m := Builtin.Tuple.tupleExact _) (wpAny_newObj_type (wpAny_bind (wpAny_pure (wpAny_pure ⟨_, rfl, wpAny_pure h⟩))) hdrop)
   | exact wpAny_bind (wpAny_bind (m := Builtin.Tuple.tupleExact _) (wpAny_newObj_type (wpAny_pure (wpAny_pure ⟨_, rfl, wpAny_pure h⟩)) hdrop))
   | exact wpAny_bind (wpAny_bind (m := Builtin.Tuple.tupleExact _) (wpAny_newObj_type (wpAny_pure ⟨_, rfl, wpAny_pure h⟩) hdrop))
end
noncomputable def Zo (f : AEnv → Res Bv) (g h : AEnv → Res (Option Int)) : AEnv → Res T := fun ρ => (f ρ).bind fun a ρ₁ => (g ρ₁).bind fun lo ρ₂ => (h ρ₂).bind fun hi ρ₃ => ob (a.get ρ₃) fun x => ob (Uk x lo hi) fun t => .ok t ρ₃
theorem RVs.cut {S : Addr → Prop} {h : Heap} {vs : Array Value} {ds : List D} (q : RVs S h vs.toList ds) (lo hi : Option Int) :
  RVs S h ((vs.toList.drop (lo.elim 0 (clipAt vs.size))).take (hi.elim vs.size (clipAt vs.size) - lo.elim 0 (clipAt vs.size))) (Ke ds lo hi) := by
 have hl : vs.size = ds.length := by rw [← q.length]; simp
 unfold Ke
 rw [hl]
 exact (q.drop _).take _
theorem Dx {x : D} {lo hi : Option Int} {t : T} (e : Uk x lo hi = some t) : ∃ ds : List D, ds.length ≤ 1000000 ∧ ((x = .tup ds ∧ t = .sh (.tup (Ke ds lo hi))) ∨ (x = .list ds ∧ t = .ow true (.list (Ke ds lo hi)))) := by
 cases x with
 | tup ds => obtain ⟨h, q⟩ := ifs e; exact ⟨ds, h, .inl ⟨rfl, (Option.some.inj q).symm⟩⟩
 | list ds => obtain ⟨h, q⟩ := ifs e; exact ⟨ds, h, .inr ⟨rfl, (Option.some.inj q).symm⟩⟩
 | _ => exact nn e
theorem Z4 {G : Gd} {k : Nat} {sc : Scope} {value : Expr} {lower upper : Option Expr} {p pos : Pos} {f : AEnv → Res Bv} {g h : AEnv → Res (Option Int)} (hv : Qh G k sc value f) (hl : G7 G k sc lower g) (hu : G7 G k sc upper h) :
  Sim G k sc (.Subscript value (.Slice lower upper none p) pos) (Zo f g h) := by
 intro cx ok ρ S s rel
 show Qk G cx sc true (do let a ← eval value cx.env; let b ← holding [a] (eval (.Slice lower upper none p) cx.env); standAt pos; subscriptTail value (.Slice lower upper none p) a b) S s _ _
 unfold Zo
 refine Qk.bind (hv cx ok ρ S s rel) fun a ρ₁ va h₁ t₁ S₁ _ r₁ ja x₁ v₁ => ?_
 intro Q E out
 refine wpAny_bind (wpAny_holding (wpAny_Slice ?_))
 refine hl cx ok ρ₁ S₁ { s with heap := h₁, toks := t₁ } r₁ _ _ ?_
 refine out.step0 fun lo ρ₂ out vl h₀ t₀ S₀ r₀ pl x₀ v₀ => ?_
 refine hu cx ok ρ₂ S₀ { s with heap := h₀, toks := t₀ } r₀ _ _ ?_
 refine out.step (x₀) fun hi ρ₃ out vu h₂ t₂ S₂ r₂ pu x₂' v₂' => ?_
 have x₂ := x₀.trans x₂'
 have v₂ : true = true → Qq cx.env h₁ h₂ := fun q => (v₀ q).trans (v₂' q)
 rw [evalPart_none]
 refine wpAny_pure ?_
 refine wpAny_bind (wpAny_standAt ?_)
 have ja₂ : ZT cx sc S₂ h₂ va a := ZT.ext ja x₂ (v₂ rfl)
 obtain ⟨x, hx, out⟩ := out.ob
 obtain ⟨t, ht, out⟩ := out.ob
 have rx := ja₂.rb r₂ hx
 have hsl : subscripted (.Slice lower upper none p) false va (.ref h₂.objs.size) = operate [.ref h₂.objs.size, va] (getItem va (.ref h₂.objs.size)) := rfl
 have rp := Rel.push (s := { s with heap := h₂ }) r₂ { cls := .type "slice", data := .fields #[vl, vu, .none] }
 have xp : Ext S₂ h₂ S₂ _ := QN { cls := .type "slice", data := .fields #[vl, vu, .none] }
 obtain ⟨ds, hlen, ⟨rfl, rfl⟩ | ⟨rfl, rfl⟩⟩ := Dx ht
 ·obtain ⟨a', o, vs, n, rfl, h1, h2, h3, q⟩ := rx.tup
  have hls : vs.size = ds.length := by rw [← q.length]; exact Array.length_toList.symm
  have it : IsTup (h₂.push { cls := .type "slice", data := .fields #[vl, vu, .none] }) a' vs := ⟨o, Heap.get?_push_of_some _ h1, h2, n, h3⟩
  refine tail_any (s := { s with heap := h₂.push { cls := .type "slice", data := .fields #[vl, vu, .none] }, toks := t₂ }) it.typeIs slot_tuple_getitem.lookup ?_ hsl
  refine UX it (Heap.IsSliceOf.new ..) pl pu (fun he => ?_) ?_ (by rw [hls, sizeLine_eq]; exact Nat.le_trans hlen (by decide))
  ·refine out _ _ t₂ S₂ rp ?_ (x₂.trans xp) fun q => (v₂ q).trans (r₂.same (Xi _))
   have := q.cut lo hi
   rw [he] at this
   exact .tup (Heap.get?_push_of_some _ h1) h2 h3 (this.ext xp)
  ·refine out _ _ t₂ S₂ (Rel.push (s := { s with heap := h₂.push _ }) rp _) ?_ ((x₂.trans xp).trans (QN _)) fun q => ((v₂ q).trans (r₂.same (Xi _))).trans (rp.same (Xi _))
   exact .tup (Heap.get?_push_size _ rfl) rfl rfl (((q.cut lo hi).ext xp).ext (QN _))
 ·obtain ⟨a', o, vs, n, rfl, h1, h2, h3, q⟩ := rx.list
  have hls : vs.size = ds.length := by rw [← q.length]; exact Array.length_toList.symm
  have it : (h₂.push { cls := .type "slice", data := .fields #[vl, vu, .none] }).IsList a' vs := ⟨o, Heap.get?_push_of_some _ h1, h2, n, h3⟩
  refine tail_any (s := { s with heap := h₂.push { cls := .type "slice", data := .fields #[vl, vu, .none] }, toks := t₂ }) it.typeIs slot_list_getitem.lookup ?_ hsl
  refine wpAny_getItem_list_slice it (Heap.IsSliceOf.new ..) pl pu .none (by decide) ?_ (by rw [hls, sizeLine_eq]; exact Nat.le_trans hlen (by decide))
  refine out _ _ t₂ S₂ (Rel.push (s := { s with heap := h₂.push _ }) rp _) ?_ ((x₂.trans xp).trans (QN _)) fun q => ((v₂ q).trans (r₂.same (Xi _))).trans (rp.same (Xi _))
  refine XQ (s := { s with heap := h₂.push _ }) rp (Xi _) (Heap.get?_none_of_le (Nat.le_refl _)) (Heap.get?_push_size _ rfl) ?_
  rw [slicePick_plain]
  simpa using ((q.cut lo hi).ext xp).ext (QN _)
noncomputable def Xz : D → D → Option T
 | .int a, .int b => some (.sh (.int (a + b)))
 | .list xs, .list ys => if xs.length + ys.length ≤ 1000000 then some (.ow true (.list (xs ++ ys))) else none
 | .tup xs, .tup ys => if xs.length + ys.length ≤ 1000000 then some (.sh (.tup (xs ++ ys))) else none
 | _, _ => none
theorem RVs.nil_iff {S : Addr → Prop} {h : Heap} {vs : List Value} {ds : List D} (q : RVs S h vs ds) : vs = [] ↔ ds = [] := by
 have := q.length
 constructor
 ·rintro rfl; exact List.length_eq_zero_iff.mp this.symm
 ·rintro rfl; exact List.length_eq_zero_iff.mp this
theorem Xw {G : Gd} : Op2 G (binaryOp .Add) Xz := by
  intro cx sc ok ρ S s v w x y t rel rx ry e Q E out
  cases x with
  | int a =>
   cases y with
   | int b =>
    obtain ⟨_, rfl⟩ := rx.int; obtain ⟨_, rfl⟩ := ry.int; cases e
    exact PySem.P.add_int (Zh out rel (.int _ _))
   | _ => exact nn e
  | list xs =>
   cases y with
   | list ys =>
    · obtain ⟨hl, e⟩ := ifs e
      cases e
      obtain ⟨a, ⟨cls, dd, data, sl⟩, vs, n, rfl, h1, h2, h3, q1⟩ := rx.list
      obtain ⟨b, ⟨cls', dd', data', sl'⟩, ws, m, rfl, g1, g2, g3, q2⟩ := ry.list
      simp only at h2 h3 g2 g3
      subst h2 h3 g2 g3
      have l1 : vs.size = xs.length := by rw [← q1.length]; simp
      have l2 : ws.size = ys.length := by rw [← q2.length]; simp
      refine concat_meets ⟨_, h1, rfl⟩ ⟨_, g1, rfl⟩ noFill_list_add seq_list_add PySem.F.slot_list_add PySem.F.entry_list_add (PySem.F.args_list_add_2 _ _) (list_addW a b vs ws n m dd dd' sl sl' (by rw [l1, l2, sizeLine_eq]; exact omB hl)) ⟨h1, g1, ?_⟩
      refine out _ _ s.toks S (rel.push _) ?_ (QN _) fun _ => rel.same (Xi _)
      refine XQ rel (Xi _) (Heap.get?_none_of_le (Nat.le_refl _)) (Heap.get?_push_size _ rfl) ?_
      rw [Array.toList_append]
      exact (q2.append q1).ext (QN _)
   | _ => exact nn e
  | tup xs =>
   cases y with
   | tup ys =>
    · obtain ⟨hl, e⟩ := ifs e
      cases e
      obtain ⟨a, ⟨cls, dd, data, sl⟩, vs, n, rfl, h1, h2, h3, q1⟩ := rx.tup
      obtain ⟨b, ⟨cls', dd', data', sl'⟩, ws, m, rfl, g1, g2, g3, q2⟩ := ry.tup
      simp only at h2 h3 g2 g3
      subst h2 h3 g2 g3
      have l1 : vs.size = xs.length := by rw [← q1.length]; simp
      have l2 : ws.size = ys.length := by rw [← q2.length]; simp
      by_cases c1 : vs.isEmpty = true
      · refine concat_meets ⟨_, h1, rfl⟩ ⟨_, g1, rfl⟩ noFill_tuple_add seq_tuple_add PySem.F.slot_tuple_add PySem.F.entry_tuple_add (PySem.F.args_tuple_add_2 _ _) (tuple_addW0 a b vs ws n m dd dd' sl sl' c1) ⟨h1, g1, ?_⟩
        have : xs = [] := (q1.nil_iff).mp (by simpa using c1)
        subst this
        exact out _ _ s.toks S rel (.tup g1 rfl rfl q2) (Ext.refl ..) fun _ => Qq.refl _ _
      · by_cases c2 : ws.isEmpty = true
        · refine concat_meets ⟨_, h1, rfl⟩ ⟨_, g1, rfl⟩ noFill_tuple_add seq_tuple_add PySem.F.slot_tuple_add PySem.F.entry_tuple_add (PySem.F.args_tuple_add_2 _ _) (tuple_addW1 a b vs ws n m dd dd' sl sl' c1 c2) ⟨h1, g1, ?_⟩
          have : ys = [] := (q2.nil_iff).mp (by simpa using c2)
          subst this
          rw [List.append_nil] at out
          exact out _ _ s.toks S rel (.tup h1 rfl rfl q1) (Ext.refl ..) fun _ => Qq.refl _ _
        · refine concat_meets ⟨_, h1, rfl⟩ ⟨_, g1, rfl⟩ noFill_tuple_add seq_tuple_add PySem.F.slot_tuple_add PySem.F.entry_tuple_add (PySem.F.args_tuple_add_2 _ _) (tuple_addW2 a b vs ws n m dd dd' sl sl' c1 c2 (by rw [l1, l2, sizeLine_eq]; exact omB hl)) ⟨h1, g1, ?_⟩
          refine out _ _ s.toks S (rel.push _) ?_ (QN _) fun _ => rel.same (Xi _)
          refine .tup (Heap.get?_push_size _ rfl) rfl rfl ?_
          rw [Array.toList_append]
          exact (q2.append q1).ext (QN _)
   | _ => exact nn e
  | _ => exact nn e
noncomputable def WZ : D → D → Option T
 | .int a, .int b => if small a || small b then some (.sh (.int (a * b))) else none
 | .list [x], .int n => if 0 ≤ n ∧ n ≤ 1000000 then some (.ow true (.list (List.replicate n.toNat x))) else none
 | _, _ => none
theorem RVs.replicate {S : Addr → Prop} {h : Heap} {v : Value} {d : D} (q : RV S h v d) : ∀ (n : Nat), RVs S h (List.replicate n v) (List.replicate n d)
 | 0 => .nil
 | n + 1 => by rw [List.replicate_succ, List.replicate_succ]; exact .cons q (RVs.replicate q n)
theorem VJ (v : Value) : ∀ (n : Nat) (acc : Array Value), (List.foldl (fun x1 x2 => x1 ++ x2) acc (List.replicate n #[v])).toList = acc.toList ++ List.replicate n v
 | 0, acc => by simp
 | n + 1, acc => by
  rw [List.replicate_succ, List.foldl_cons, VJ v n]
  simp [List.replicate_succ]
theorem WP {G : Gd} : Op2 G (binaryOp .Mult) WZ := by
  intro cx sc ok ρ S s v w x y t rel rx ry e
  cases x with
  | int a =>
   cases y with
   | int b => exact Hy cx sc ok ρ S s v w _ _ t rel rx ry e
   | _ => exact nn e
  | list xs =>
   cases xs with
   | nil => exact nn e
   | cons d xs =>
   cases xs with
   | cons _ _ => exact nn e
   | nil =>
   cases y with
   | int n =>
    · obtain ⟨hn, e⟩ := ifs e
      cases e
      obtain ⟨a, ⟨cls, dd, data, sl⟩, vs, m, rfl, h1, h2, h3, q1⟩ := rx.list
      obtain ⟨u, rfl⟩ := ry.int
      simp only at h2 h3
      subst h2 h3
      intro Q E out
      have hone : ∃ v, vs = #[v] ∧ RV S s.heap v d := by
        obtain ⟨l⟩ := vs
        simp only at q1
        cases q1 with | cons q r => cases r; exact ⟨_, rfl, q⟩
      obtain ⟨v, rfl, qv⟩ := hone
      refine wpAny_binaryOp_repeat_ref (T := "list") (U := "int") (by decide) ⟨_, h1, rfl⟩ (fun s' => typeIs_int s' n u) noFill_list_mul F.fills_int_mul F.slot_int_rmul repeat_list F.slot_int_index.lookup
        (call_meets F.slot_int_rmul (typeIs_int s n u) F.entry_int_rmul (F.args_int_rmul_2 _ _) (lm_int_rmul_list_any n u a #[v] m dd sl)
          ⟨h1, rfl, ⟨_, h1, rfl⟩, call_meets F.slot_list_mul ⟨_, h1, rfl⟩ F.entry_list_mul (F.args_list_mul_2 _ _)
            (lm_list_mul_any a #[v] m dd sl n u (by simp [Builtin.List.listFitsIndex]; lia) (by simp; lia) (by simp [Builtin.List.listTooLong, sizeLine]; lia))
            ⟨h1, ?_⟩⟩)
      refine out _ _ s.toks S (rel.push _) ?_ (QN _) fun _ => rel.same (Xi _)
      refine XQ rel (Xi _) (Heap.get?_none_of_le (Nat.le_refl _)) (Heap.get?_push_size _ rfl) ?_
      rw [show (#[v] : Array Value).isEmpty = false from rfl]
      simp only [Bool.false_eq_true, if_false]
      rw [VJ]
      exact (RVs.replicate qv n.toNat).ext (QN _)
   | _ => exact nn e
  | _ => exact nn e
section
variable {G : Gd}
noncomputable def one (F : D → Option T) : List D → Option T
 | [x] => F x
 | _ => none
theorem WJ {F : D → Option T} {ds : List D} {t : T} (e : one F ds = some t) : ∃ x, ds = [x] ∧ F x = some t := by
 cases ds with
 | nil => exact nn e
 | cons x ds =>
  cases ds with
  | nil => exact ⟨x, rfl, e⟩
  | cons _ _ => exact nn e
noncomputable def IJ : D → Option T
 | .list ds => if ds.length ≤ 1000000 then some (.sh (.int ds.length)) else none
 | .tup ds => if ds.length ≤ 1000000 then some (.sh (.int ds.length)) else none
 | _ => none
noncomputable def Y2 : List D → Option T := one IJ
theorem RBs.one {S : Addr → Prop} {h : Heap} {vs : List Value} {d : D} (q : RBs S h vs [d]) : ∃ v, vs = [v] ∧ RB S h v d := by
 cases q with | cons a b => cases b; exact ⟨_, rfl, a⟩
theorem RBs.two {S : Addr → Prop} {h : Heap} {vs : List Value} {d e : D} (q : RBs S h vs [d, e]) : ∃ v w, vs = [v, w] ∧ RB S h v d ∧ RB S h w e := by
 cases q with | cons a b => obtain ⟨w, rfl, r⟩ := b.one; exact ⟨_, _, rfl, a, r⟩
theorem Zz : OpN G (fun vs => call (.builtin "len") vs []) Y2 := by
 intro cx sc ok ρ S s vs ds t rel q e Q E out
 obtain ⟨d, rfl, e⟩ := WJ e
 cases d with
 | list ds =>
  obtain ⟨hl, e⟩ := ifs e
  cases e
  obtain ⟨v, rfl, r⟩ := q.one
  obtain ⟨a, o, us, n, rfl, h1, h2, h3, k⟩ := r.list
  have hs := k.length
  rw [Array.length_toList] at hs
  refine PyProof.Rows.len_list ⟨o, h1, h2, n, h3⟩ (by rw [hs]; exact Int.ofNat_lt.mpr (Nat.lt_of_le_of_lt hl (by decide))) ?_
  rw [hs]
  exact Zh out rel (.int _ _)
 | tup ds =>
  obtain ⟨hl, e⟩ := ifs e
  cases e
  obtain ⟨v, rfl, r⟩ := q.one
  obtain ⟨a, o, us, n, rfl, h1, h2, h3, k⟩ := r.tup
  have hs := k.length
  rw [Array.length_toList] at hs
  refine PyProof.Rows.len_tuple ⟨o, h1, h2, n, h3⟩ (by rw [hs]; exact Int.ofNat_lt.mpr (Nat.lt_of_le_of_lt hl (by decide))) ?_
  rw [hs]
  exact Zh out rel (.int _ _)
 | _ => exact nn e
noncomputable def XT : List D → Option T
 | [x] => (asI x).map fun n => .sh (.range 0 n 1)
 | [x, y] => (asI x).bind fun a => (asI y).map fun b => .sh (.range a b 1)
 | [x, y, z] => (asI x).bind fun a => (asI y).bind fun b => (asI z).bind fun c => if c ≠ 0 ∧ c.natAbs < 1073741824 then some (.sh (.range a b c)) else none
 | _ => none
theorem CX {ds : List D} {t : T} (e : XT ds = some t) : (∃ n, ds = [.int n] ∧ t = .sh (.range 0 n 1)) ∨ (∃ n m, ds = [.int n, .int m] ∧ t = .sh (.range n m 1)) ∨ ∃ n m c, ds = [.int n, .int m, .int c] ∧ (c ≠ 0 ∧ c.natAbs < 1073741824) ∧ t = .sh (.range n m c) := by
 cases ds with
 | nil => exact nn e
 | cons x ds =>
  cases ds with
  | nil =>
   obtain ⟨n, h1, rfl⟩ := Option.map_eq_some_iff.mp e
   obtain rfl := Je h1
   exact .inl ⟨n, rfl, rfl⟩
  | cons y ds =>
   cases ds with
   | nil =>
    obtain ⟨n, h1, e⟩ := Option.bind_eq_some_iff.mp e
    obtain ⟨m, h2, rfl⟩ := Option.map_eq_some_iff.mp e
    obtain rfl := Je h1
    obtain rfl := Je h2
    exact .inr (.inl ⟨n, m, rfl, rfl⟩)
   | cons z ds =>
    cases ds with
    | nil =>
     obtain ⟨n, h1, e⟩ := Option.bind_eq_some_iff.mp e
     obtain ⟨m, h2, e⟩ := Option.bind_eq_some_iff.mp e
     obtain ⟨c, h3, e⟩ := Option.bind_eq_some_iff.mp e
     obtain ⟨hc, e4⟩ := ifs (c := c ≠ 0 ∧ c.natAbs < 1073741824) (a := some (T.sh (.range n m c))) e
     obtain rfl := Je h1
     obtain rfl := Je h2
     obtain rfl := Je h3
     cases e4
     exact .inr (.inr ⟨n, m, c, rfl, hc, rfl⟩)
    | cons _ _ => exact nn e
theorem RBs.three {S : Addr → Prop} {h : Heap} {vs : List Value} {d e f : D} (q : RBs S h vs [d, e, f]) : ∃ v w u, vs = [v, w, u] ∧ RB S h v d ∧ RB S h w e ∧ RB S h u f := by
 cases q with | cons a b => obtain ⟨w, u, rfl, r, r'⟩ := b.two; exact ⟨_, _, _, rfl, a, r, r'⟩
theorem Zu : OpN G (fun vs => call (.type "range") vs []) XT := by
 intro cx sc ok ρ S s vs ds t rel q e Q E out
 rcases CX e with ⟨n, rfl, rfl⟩ | ⟨n, m, rfl, rfl⟩ | ⟨n, m, c, rfl, hc, rfl⟩
 ·skip
  obtain ⟨v, rfl, r⟩ := q.one
  obtain ⟨u, rfl⟩ := r.int
  exact call_range_1 (out _ _ _ S (rel.push _) (.range (IsRange.new ..)) (QN _) fun _ => rel.same (Xi _))
 ·skip
  obtain ⟨v, w, rfl, r, r'⟩ := q.two
  obtain ⟨u, rfl⟩ := r.int
  obtain ⟨u', rfl⟩ := r'.int
  exact call_range_2 (out _ _ _ S (rel.push _) (.range (IsRange.new ..)) (QN _) fun _ => rel.same (Xi _))
 ·skip
  ·obtain ⟨v, w, x, rfl, r, r', r''⟩ := q.three
   obtain ⟨u, rfl⟩ := r.int
   obtain ⟨u', rfl⟩ := r'.int
   obtain ⟨u'', rfl⟩ := r''.int
   exact call_range_3 hc.1 (out _ _ _ S (rel.push _) (.range (IsRange.new ..)) (QN _) fun _ => rel.same (Xi _)) (.inl (PyProof.noPylong_small hc.2))
end
noncomputable def W2 (lo hi st : Int) : Nat := (Builtin.Range.rangeSize lo hi st).toNat
noncomputable def Un (lo hi st : Int) : List D := (List.range (W2 lo hi st)).map fun (i : Nat) => .int (lo + i * st)
noncomputable def Zt (lo hi st : Int) : Bool := Builtin.Range.small lo hi st && decide (Builtin.Range.rangeSize lo hi st ≤ 1000000) && decide (0 ≤ Builtin.Range.rangeSize lo hi st)
theorem Ww {lo hi st : Int} (h : Zt lo hi st = true) : Builtin.Range.small lo hi st = true ∧ Builtin.Range.rangeSize lo hi st = (W2 lo hi st : Int) ∧ W2 lo hi st ≤ 1000000 := by
 unfold Zt at h
 simp only [Bool.and_eq_true, decide_eq_true_eq] at h
 refine ⟨h.1.1, ?_, ?_⟩ <;> unfold W2 <;> lia
theorem RVs.of_get {S : Addr → Prop} {h : Heap} : ∀ {vs : List Value} {ds : List D}, vs.length = ds.length → (∀ (j : Nat) v, vs[j]? = some v → ∃ d, ds[j]? = some d ∧ RV S h v d) → RVs S h vs ds
 | [], [], _, _ => .nil
 | [], _ :: _, e, _ => by simp at e
 | _ :: _, [], e, _ => by simp at e
 | v :: vs, d :: ds, e, k => by
  obtain ⟨d', hd, q⟩ := k 0 v rfl
  simp at hd; subst hd
  exact .cons q (RVs.of_get (by simpa using e) fun j w hw => by simpa using k (j + 1) w (by simpa using hw))
theorem Kr {S : Addr → Prop} {h : Heap} {lo st : Int} {n : Nat} {acc : Array Value} (q : ItemsOf (fun i v => ∃ t, v = .int (lo + i * st) t) acc n) : RVs S h acc.toList ((List.range n).map fun (i : Nat) => D.int (lo + i * st)) := by
 refine RVs.of_get (by simp [q.1]) fun j v hv => ?_
 have hv' : acc[j]? = some v := by simpa using hv
 obtain ⟨t, rfl⟩ := q.2 j v hv'
 have hj : j < n := by
  have := (Array.getElem?_eq_some_iff.mp hv').1
  rw [q.1] at this; exact this
 exact ⟨.int (lo + j * st), by simp [hj], .int _ _⟩
section
variable {prog : Program} {w : World} {A : Around} {E : Value → Shared → Prop} {s : Shared}
theorem UU {Q : List Value → Shared → Prop} {r : Addr} {a b c : Int} {t u v : Tok} {n : Nat} (hh : A.handled = none) (hr : IsRange s.heap r a b c t u v) (hsmall : Builtin.Range.small a b c = true)
  (hn : Builtin.Range.rangeSize a b c = n) (hlen : n ≤ 2 ^ 24)
  (hQ : ∀ h' tk (acc : Array Value), (∀ b o', s.heap.get? b = some o' → h'.get? b = some o') → ItemsOf (fun i v => ∃ t, v = .int (a + i * c) t) acc n → Q acc.toList { s with heap := h', toks := tk }) :
  wpAny (model prog w) A (collect (.ref r)) Q E s := by
 unfold collect
 refine wpAny_bind (wpAny_runValue (codeAny_builtin F.entry_proto_collect ?_))
 rw [Around.under_plainId F.plain_proto_collect _]
 show wpAny _ A.in1 (newList [] >>= fun l => again (.builtin "list.__iadd__" ⟨[l, .ref r], []⟩)) _ _ s
 refine wpAny_bind (wpAny_newObj_type ?_)
 refine wpAny_pure ⟨plainId_quiet F.plain_list_iadd _, codeAny_builtin F.entry_list_iadd ?_⟩
 rw [Around.under_plainId F.plain_list_iadd _]
 show wpAny _ A.in1 (Builtin.List.listExtendWith (.ref s.heap.objs.size) (.ref r) (.ref s.heap.objs.size)) _ _ _
 have hS : (s.heap.push { cls := .type "list", data := .seq ([] : List Value).toArray }).get? s.heap.objs.size = some { cls := .type "list", data := .seq #[] 0 } := Heap.get?_push_size _ rfl
 have fin' : ∀ h' tk (acc : Array Value) c', (∀ b o, b ≠ s.heap.objs.size → (s.heap.push { cls := .type "list", data := .seq ([] : List Value).toArray }).get? b = some o → h'.get? b = some o) → h'.get? s.heap.objs.size = some { cls := .type "list", dict := none, data := .seq acc c', slots := #[] } → ItemsOf (fun i v => ∃ t, v = .int (a + i * c) t) acc n → wpAny (model prog w) A (match Value.ref s.heap.objs.size with
   | Value.ref a => do
    match (← load a).data with
     | Data.seq xs _ => pure xs.toList
     | _ => unsupported "internal:collect"
   | _ => unsupported "internal:collect") Q E { s with heap := h', toks := tk } := by
  intro h' tk acc c' hk hS' hacc
  show wpAny _ A (load s.heap.objs.size >>= _) _ _ _
  refine wpAny_bind (wpAny_load hS' ?_)
  refine wpAny_pure ?_
  exact hQ _ _ _ (fun b o' hb => hk b o' (Nat.ne_of_lt (Heap.lt_size hb)) (Heap.get?_push_of_some _ hb)) hacc
 refine wpAny_mono (wpAny_extend_range (A := A) (R := fun r s' => ∃ h' tk acc c', (∀ b o, b ≠ s.heap.objs.size → (s.heap.push { cls := .type "list", data := .seq ([] : List Value).toArray }).get? b = some o → h'.get? b = some o) ∧ h'.get? s.heap.objs.size = some { cls := .type "list", dict := none, data := .seq acc c', slots := #[] } ∧ ItemsOf (fun i v => ∃ t, v = .int (a + i * c) t) acc n ∧ r = .ok (.ret (.ref s.heap.objs.size)) ∧ s' = { s with heap := h', toks := tk })
  (s := { s with heap := s.heap.push { cls := .type "list", data := .seq ([] : List Value).toArray } }) hh (Heap.get?_push_of_some _ hr) hsmall hn hlen _ _ 0 hS fun h' tk acc c' hk hS' hacc => ⟨h', tk, acc, c', hk, hS', hacc, rfl, rfl⟩) (fun fin s' h => ?_) (fun e s' h => ?_)
 ·cases fin with
  | done f =>
   obtain ⟨h', tk, acc, c', hk, hS', hacc, e, rfl⟩ := h
   cases e
   exact fin' h' tk acc c' hk hS' hacc
  | again c' => exact ⟨h.1, codeAny_mono h.2 fun r s'' hr => by obtain ⟨h', tk, acc, c', hk, hS', hacc, rfl, rfl⟩ := hr; exact fin' h' tk acc c' hk hS' hacc⟩
 ·obtain ⟨_, _, _, _, _, _, _, e, _⟩ := h; cases e
end
open AutoSeq1 (wpAny_loadPart') in
theorem Ug {r : Addr} {a b c : Int} {t u v : Tok} {n : Nat} (hsmall : Builtin.Range.small a b c = true) (hn : Builtin.Range.rangeSize a b c = n) (hlen : n ≤ 2 ^ 24) :
  Meets (Builtin.«tuple.__new__» ⟨[.type "tuple", .ref r], []⟩)
   (fun A R s => A.handled = none ∧ IsRange s.heap r a b c t u v ∧ ∀ (h' : Heap) (tk : Nat) (acc : Array Value), (∀ b o', s.heap.get? b = some o' → h'.get? b = some o') → ItemsOf (fun i v => ∃ t, v = .int (a + i * c) t) acc n → R (.ok (.ret (.ref h'.objs.size))) { s with heap := h'.push { cls := .type "tuple", data := .seq acc }, toks := tk }) :=
 .of_wp fun prog w A R s h => by
  obtain ⟨hp, g, d, tk, os⟩ := s; obtain ⟨hh, ht, h⟩ := h
  have hsub := sub_tuple_self
  have hinit := init_tuple_lookup
  have hmh := madeHere_tuple
  have hT : Shared.TypeIs ⟨hp, g, d, tk, os⟩ (.ref r) "range" := ⟨_, ht, rfl⟩
  wp_walk using wpAny_loadPart' ht, wpAny_typeOf hT, UU (A := A.in1) hh ht hsmall hn hlen
  intro h' tk' acc hk hacc
  show wpAny _ _ (Builtin.Tuple.tupleExact acc.toList.toArray >>= fun v => ret v) _ _ _
  unfold Builtin.Tuple.tupleExact
  refine wpAny_bind (wpAny_newObj_type ?_ (by show acc.toList.toArray.size ≤ sizeLine; have := hacc.1; simp only [Array.toArray_toList]; rw [sizeLine_eq]; exact le_of_eq_of_le this hlen))
  refine wpAny_pure ⟨_, rfl, ?_⟩
  have e : acc.toList.toArray = acc := by simp
  rw [e]
  exact h h' tk' acc hk hacc
theorem W4 {prog : Program} {w : World} {A : Around} {E : Value → Shared → Prop} {s : Shared} {r : Addr} {a b c : Int} {t u v : Tok} {n : Nat} {Q : Value → Shared → Prop} (hh : A.handled = none) (hr : IsRange s.heap r a b c t u v) (hsmall : Builtin.Range.small a b c = true)
  (hn : Builtin.Range.rangeSize a b c = n) (hlen : n ≤ 2 ^ 24)
  (h : ∀ (h' : Heap) (tk : Nat) (acc : Array Value), (∀ b o', s.heap.get? b = some o' → h'.get? b = some o') → ItemsOf (fun i v => ∃ t, v = .int (a + i * c) t) acc n → Q (.ref h'.objs.size) { s with heap := h'.push { cls := .type "tuple", data := .seq acc }, toks := tk }) :
  wpAny (model prog w) A (call (.type "tuple") [.ref r]) Q E s :=
 callType_new F.called_tuple (by decide) (F.typeCall_tuple_1 _) (F.newCall_tuple_1 _) (fun obj => F.args_object_init_2 obj _) F.entry_tuple_new
  (Ug hsmall hn hlen) ⟨hh, hr, fun h' tk acc hk hacc => ⟨⟨_, Heap.get?_push_size _ rfl, rfl⟩, h h' tk acc hk hacc⟩⟩
section
variable {G : Gd}
noncomputable def Ik : D → Option T
 | .list ds => if ds.length ≤ 1000000 then some (.ow true (.list ds)) else none
 | .tup ds => if ds.length ≤ 1000000 then some (.ow true (.list ds)) else none
 | .range lo hi st => if Zt lo hi st then some (.ow true (.list (Un lo hi st))) else none
 | _ => none
noncomputable def Yw : List D → Option T := one Ik
theorem Rel.keepsE {cx : Cx} {sc : Scope} {ρ : AEnv} {S : Addr → Prop} {h h' : Heap} (r : Rel G cx sc ρ S h) (k : ∀ b o, h.get? b = some o → h'.get? b = some o) : Rel G cx sc ρ S h' ∧ Ext S h S h' ∧ Qq cx.env h h' := ⟨r.keeps k, Ext.of_keeps k, r.same (.of_keeps k)⟩
theorem JT (hq : G.quiet = true) : OpN G (fun vs => call (.type "list") vs []) Yw := by
 intro cx sc ok ρ S s vs ds t rel q e Q E out
 have hsz : s.heap.get? s.heap.objs.size = none := Heap.get?_none_of_le (Nat.le_refl _)
 obtain ⟨d, rfl, e⟩ := WJ e
 cases d with
 | list ds =>
  obtain ⟨hl, e⟩ := ifs e
  cases e
  obtain ⟨v, rfl, r⟩ := q.one
  obtain ⟨a, o, us, n, rfl, h1, h2, h3, k⟩ := r.list
  have hs := k.length
  rw [Array.length_toList] at hs
  refine call_list_seq a (.inl rfl) h1 h2 h3 (fun h' c' hk hD => ?_) (by rw [hs, sizeLine_eq]; exact omB hl)
  obtain ⟨r', x', v'⟩ := rel.keepsE hk
  exact out _ h' s.toks S r' (XQ rel (.of_keeps hk) hsz hD (k.ext x')) x' fun _ => v'
 | tup ds =>
  obtain ⟨hl, e⟩ := ifs e
  cases e
  obtain ⟨v, rfl, r⟩ := q.one
  obtain ⟨a, o, us, n, rfl, h1, h2, h3, k⟩ := r.tup
  have hs := k.length
  rw [Array.length_toList] at hs
  refine call_list_seq a (.inr rfl) h1 h2 h3 (fun h' c' hk hD => ?_) (by rw [hs, sizeLine_eq]; exact omB hl)
  obtain ⟨r', x', v'⟩ := rel.keepsE hk
  exact out _ h' s.toks S r' (XQ rel (.of_keeps hk) hsz hD (k.ext x')) x' fun _ => v'
 | range lo hi st =>
  obtain ⟨hf, e⟩ := ifs e
  cases e
  obtain ⟨f1, f2, f3⟩ := Ww hf
  obtain ⟨v, rfl, r⟩ := q.one
  have r := r.rv fun _ e => by cases e
  cases r with
  | range hr =>
   refine call_list_range (ok.hd hq) hr f1 f2 (by exact Nat.le_trans f3 (Nat.le_add_left _ _)) fun h' tk acc c' hk hD hacc => ?_
   obtain ⟨r', x', v'⟩ := rel.keepsE hk
   exact out _ h' tk S r' (XQ rel (.of_keeps hk) hsz hD (Kr hacc)) x' fun _ => v'
 | _ => exact nn e
noncomputable def HH : D → Option T
 | .list ds => if ds.length ≤ 1000000 then some (.sh (.tup ds)) else none
 | .tup ds => some (.sh (.tup ds))
 | .range lo hi st => if Zt lo hi st then some (.sh (.tup (Un lo hi st))) else none
 | _ => none
noncomputable def Yc : List D → Option T := one HH
theorem YS (hq : G.quiet = true) : OpN G (fun vs => call (.type "tuple") vs []) Yc := by
 intro cx sc ok ρ S s vs ds t rel q e Q E out
 obtain ⟨d, rfl, e⟩ := WJ e
 cases d with
 | list ds =>
  obtain ⟨hl, e⟩ := ifs e
  cases e
  obtain ⟨v, rfl, r⟩ := q.one
  obtain ⟨a, o, us, n, rfl, h1, h2, h3, k⟩ := r.list
  have hs := k.length
  rw [Array.length_toList] at hs
  refine call_tuple_list ⟨o, h1, h2, n, h3⟩ (fun h' hk => ?_) (by rw [hs, sizeLine_eq]; exact omB hl)
  have hk' : ∀ b o, s.heap.get? b = some o → (h'.push { cls := .type "tuple", data := .seq us }).get? b = some o := fun b o e => Heap.get?_push_of_some _ (hk b o e)
  obtain ⟨r', x', v'⟩ := rel.keepsE hk'
  exact out _ _ s.toks S r' (.tup (Heap.get?_push_size _ rfl) rfl rfl (k.ext x')) x' fun _ => v'
 | tup ds =>
  cases e
  obtain ⟨v, rfl, r⟩ := q.one
  obtain ⟨a, o, us, n, rfl, h1, h2, h3, k⟩ := r.tup
  exact call_tuple_tup ⟨o, h1, h2, n, h3⟩ (Zh out rel (tk := s.toks) (.tup h1 h2 h3 k))
 | range lo hi st =>
  obtain ⟨hf, e⟩ := ifs e
  cases e
  obtain ⟨f1, f2, f3⟩ := Ww hf
  obtain ⟨v, rfl, r⟩ := q.one
  have r := r.rv fun _ e => by cases e
  cases r with
  | range hr =>
   refine W4 (ok.hd hq) hr f1 f2 (by exact Nat.le_trans f3 (Nat.le_add_left _ _)) fun h' tk acc hk hacc => ?_
   have hk' : ∀ b o, s.heap.get? b = some o → (h'.push { cls := .type "tuple", data := .seq acc }).get? b = some o := fun b o e => Heap.get?_push_of_some _ (hk b o e)
   obtain ⟨r', x', v'⟩ := rel.keepsE hk'
   exact out _ _ tk S r' (.tup (Heap.get?_push_size _ rfl) rfl rfl (Kr hacc)) x' fun _ => v'
 | _ => exact nn e
noncomputable def UK : List D → Option (List Bool)
 | [] => some []
 | d :: ds => (asB d).bind fun b => (UK ds).map (b :: ·)
noncomputable def IQ : D → Option T
 | .list ds => (UK ds).map fun bs => .sh (.bool (bs.all id))
 | _ => none
noncomputable def Hc : List D → Option T := one IQ
theorem Eu {S : Addr → Prop} {h : Heap} {vs : List Value} : ∀ {ds : List D} {bs : List Bool}, RVs S h vs ds → UK ds = some bs → vs.length = bs.length ∧ ∀ (i : Nat) v, vs[i]? = some v → ∃ b, bs[i]? = some b ∧ v = .bool b := by
 induction vs with
 | nil => intro ds bs q e; cases q; cases e; exact ⟨rfl, fun i v hv => by cases hv⟩
 | cons v vs ih =>
  intro ds bs q e
  cases q with
  | cons q r =>
   obtain ⟨b, hb, e1⟩ := Option.bind_eq_some_iff.mp e
   obtain ⟨bs, hbs, rfl⟩ := Option.map_eq_some_iff.mp e1
   have := KR hb
   subst this
   obtain ⟨l, m⟩ := ih r hbs
   cases q
   refine ⟨congrArg (· + 1) l, fun i v hv => ?_⟩
   cases i with
   | zero => cases hv; exact ⟨b, rfl, rfl⟩
   | succ i => exact m i v hv
theorem EE (bs : List Bool) : ((List.range bs.length).all fun i => bs[i]?.getD false) = bs.all id := by
 rw [Bool.eq_iff_iff]
 simp only [List.all_eq_true, List.mem_range]
 constructor
 ·intro h b hb
  obtain ⟨i, hi, rfl⟩ := List.mem_iff_getElem.mp hb
  have := h i hi
  simpa [hi] using this
 ·intro h i hi
  have := h bs[i] (List.getElem_mem hi)
  simpa [hi] using this
theorem HI (hq : G.quiet = true) : OpN G (fun vs => call (.builtin "all") vs []) Hc := by
 intro cx sc ok ρ S s vs ds t rel q e Q E out
 obtain ⟨d, rfl, e⟩ := WJ e
 cases d with
 | list ds =>
  obtain ⟨bs, hb, rfl⟩ := Option.map_eq_some_iff.mp e
  obtain ⟨v, rfl, r⟩ := q.one
  obtain ⟨a, o, us, n, rfl, h1, h2, h3, k⟩ := r.list
  obtain ⟨hlen, hget⟩ := Eu k hb
  have il : s.heap.IsList a us := ⟨o, h1, h2, n, h3⟩
  refine call_all_walk (wpAny_pyIter_list il ?_)
  have hne : a ≠ s.heap.objs.size := fun e => by rw [e] at h1; rw [Heap.get?_none_of_le (Nat.le_refl _)] at h1; cases h1
  refine ⟨_, _, _, _, _, _, fun i => bs[i]?.getD false, rfl, Walks.list (A := cx.A.in1) (ok.hd hq) _ a hne us, ⟨⟨_, Heap.get?_push_size _ rfl, rfl, rfl⟩, il.push _⟩, fun i v s' Q' E' hP hQ' => ?_, fun h' tk hk => ?_⟩
  ·obtain ⟨b, hb', rfl⟩ := hget i v (by simpa using hP)
   simp only [hb', Option.getD_some] at hQ'
   exact wpAny_truthy_bool hQ'
  ·have hs : us.size = bs.length := by rw [← hlen]; simp
   rw [hs, EE]
   have hk' : ∀ b o, s.heap.get? b = some o → h'.get? b = some o := fun b o e => hk b o (by simp; rintro rfl; rw [Heap.get?_none_of_le (Nat.le_refl _)] at e; cases e) (Heap.get?_push_of_some _ e)
   obtain ⟨r', x', v'⟩ := rel.keepsE hk'
   exact out _ h' tk S r' (.bool _) x' fun _ => v'
 | _ => exact nn e
end
end Mine
end

section
namespace Mine
open PySem PyProof.Rows
noncomputable def J4 : List D → Option (List Int)
 | [] => some []
 | d :: ds => (asI d).bind fun i => (J4 ds).map (i :: ·)
theorem Kx {d : D} {ds : List D} {ns : List Int} (e : J4 (d :: ds) = some ns) : ∃ i ms, d = .int i ∧ J4 ds = some ms ∧ ns = i :: ms := by
 obtain ⟨i, h1, e1⟩ := Option.bind_eq_some_iff.mp e
 obtain ⟨ms, h2, h3⟩ := Option.map_eq_some_iff.mp e1
 exact ⟨i, ms, Je h1, h2, h3.symm⟩
noncomputable def Uo (ns : List Int) : List Int := ns.mergeSort (fun a b => decide (a ≤ b))
noncomputable def GO : D → Option T
 | .list ds => (J4 ds).bind fun ns => if ns.length < 64 then some (.ow true (.list ((Uo ns).map .int))) else none
 | .tup ds => (J4 ds).bind fun ns => if ns.length < 64 then some (.ow true (.list ((Uo ns).map .int))) else none
 | _ => none
noncomputable def KK : List D → Option T := one GO
theorem BO {S : Addr → Prop} {h : Heap} {vs : List Value} : ∀ {ds : List D} {ns : List Int}, RVs S h vs ds → J4 ds = some ns → IntsAre vs ns := by
 induction vs with
 | nil => intro ds ns q e; cases q; cases e; exact .nil
 | cons v vs ih =>
  intro ds ns q e
  cases q with
  | cons q r =>
   obtain ⟨i, ms, rfl, hn, rfl⟩ := Kx e
   cases q
   exact .cons _ _ (ih r hn)
theorem Cu {S : Addr → Prop} {h : Heap} {vs : List Value} {ns : List Int} (q : IntsAre vs ns) : RVs S h vs (ns.map .int) := by
 induction q with
 | nil => exact .nil
 | cons n t _ ih => exact .cons (.int n t) ih
theorem UH {ns ns' : List Int} (p : ns'.Perm ns) (s : ns'.Pairwise (· ≤ ·)) : ns' = Uo ns := by
 have hs : (Uo ns).Pairwise (· ≤ ·) := by
  have := List.pairwise_mergeSort (le := fun a b : Int => decide (a ≤ b)) (fun a b c h1 h2 => by simp at *; exact Int.le_trans h1 h2) (fun a b => by simp; lia) ns
  exact this.imp fun h => by simpa using h
 exact List.Perm.eq_of_pairwise (fun a b _ _ h1 h2 => by lia) s hs (p.trans (List.mergeSort_perm ns _).symm)
section
variable {prog : Program} {w : World} {A : Around} {E : Value → Shared → Prop} {s : Shared}
theorem KY {l : Addr} {o : Obj} {vs : Array Value} {n : Nat} {T : String} {ns : List Int} {Q : Value → Shared → Prop} (hT : T = "list" ∨ T = "tuple") (ho : s.heap.get? l = some o) (hc : o.cls = .type T) (hd : o.data = .seq vs n) (hI : IntsAre vs.toList ns) (h64 : vs.size < 64)
  (h : ∀ (h' : Heap) (a : Addr) (e : Nat) (out : Array Value) (ns' : List Int), (∀ b o, s.heap.get? b = some o → h'.get? b = some o) → s.heap.get? a = none → h'.get? a = some (seqObj "list" out e) → IntsAre out.toList ns' → ns'.Perm ns → ns'.Pairwise (· ≤ ·) → Q (.ref a) { s with heap := h' }) :
  wpAny (model prog w) A (call (.builtin "sorted") [.ref l]) Q E s := by
 refine Calls.call_function_entry kind_sorted plain_sorted entry_sorted (args_sorted1 _) ?_
 unfold Builtin.«sorted»
 refine wpAny_bind (m := checkCount "sorted" 1 1 _) (wpAny_pure ?_)
 refine wpAny_bind (wpAny_collect_seq l hT ho hc hd (fun h₁ hk₁ => ?_) (by rw [sizeLine_eq]; exact omL h64))
 refine wpAny_bind (wpAny_newList ?_ (by rw [Array.length_toList, sizeLine_eq]; exact omL h64))
 have hoL : (h₁.push (seqObj "list" vs.toList.toArray 0)).get? h₁.objs.size = some (seqObj "list" vs.toList.toArray 0) := Heap.get?_push_size _ rfl
 refine wpAny_bind (wpAny_holding (wpAny_call_entry slot_list_sort ⟨_, hoL, rfl⟩ entry_list_sort (list_sort_tree hoL hI (by simpa using h64) fun out ns' a1 a2 a3 => ⟨_, rfl, ?_⟩) (args_list_sort _)))
 obtain ⟨e, he⟩ := sortedHeap_at (out := out) hoL
 have hn : s.heap.get? h₁.objs.size = none := by
  cases q : s.heap.get? h₁.objs.size with
  | none => rfl
  | some o => have := Heap.lt_size (hk₁ _ _ q); exact absurd this (Nat.lt_irrefl _)
 refine wpAny_pure ⟨_, rfl, h _ _ e out ns' (fun b o eb => ?_) hn he a1 a2 a3⟩
 have hlt := Heap.lt_size (hk₁ b o eb)
 rw [sortedHeap_old (Nat.ne_of_lt hlt) (by rw [size_push']; exact Nat.lt_succ_of_lt hlt)]
 exact Heap.get?_push_of_some _ (hk₁ b o eb)
end
theorem CE {ds : List D} : ∀ {ns : List Int}, J4 ds = some ns → ds.length = ns.length := by
 induction ds with
 | nil => intro ns e; cases e; rfl
 | cons d ds ih =>
  intro ns e
  obtain ⟨i, ms, rfl, hn, rfl⟩ := Kx e
  exact congrArg (· + 1) (ih hn)
set_option tactic.hygienic true in
theorem D5 {G : Gd} : OpN G (fun vs => call (.builtin "sorted") vs []) KK := by
 intro cx sc ok ρ S s vs ds t rel q e Q E out
 obtain ⟨d, rfl, e⟩ := WJ e
 cases d with
 | list ds =>
  obtain ⟨ns, hn, e⟩ := Option.bind_eq_some_iff.mp e
  split at e
  ·rename_i hl
   cases e
   obtain ⟨v, rfl, r⟩ := q.one
   obtain ⟨a, o, us, n, rfl, h1, h2, h3, k⟩ := r.list
   have hs := k.length
   rw [Array.length_toList, CE hn] at hs
   refine KY (.inl rfl) h1 h2 h3 (BO k hn) (by exact lt_of_eq_of_lt hs hl) fun h' b e ot ns' hk hb he i1 p1 s1 => ?_
   obtain ⟨r', x', v'⟩ := rel.keepsE hk
   refine out _ h' s.toks S r' (XQ rel (.of_keeps hk) hb he ?_) x' fun _ => v'
   rw [← UH p1 s1]
   exact Cu i1
  ·cases e
 | tup ds =>
  obtain ⟨ns, hn, e⟩ := Option.bind_eq_some_iff.mp e
  split at e
  ·rename_i hl
   cases e
   obtain ⟨v, rfl, r⟩ := q.one
   obtain ⟨a, o, us, n, rfl, h1, h2, h3, k⟩ := r.tup
   have hs := k.length
   rw [Array.length_toList, CE hn] at hs
   refine KY (.inr rfl) h1 h2 h3 (BO k hn) (by exact lt_of_eq_of_lt hs hl) fun h' b e ot ns' hk hb he i1 p1 s1 => ?_
   obtain ⟨r', x', v'⟩ := rel.keepsE hk
   refine out _ h' s.toks S r' (XQ rel (.of_keeps hk) hb he ?_) x' fun _ => v'
   rw [← UH p1 s1]
   exact Cu i1
  ·cases e
 | _ => exact nn e
section
variable {G : Gd} {cx : Cx} {sc : Scope} {ρ : AEnv} {S : Addr → Prop} {h h' : Heap}
theorem RV.but {S : Addr → Prop} {h h' : Heap} {a : Addr} {o : Obj} (e : h.get? a = some o) (ho : ¬ Imm o) (hs : ¬ S a) (k : ∀ b o, b ≠ a → h.get? b = some o → h'.get? b = some o) (ha : ∃ o, h'.get? a = some o) : Ext S h S h' :=
 ⟨fun _ q => q, fun b ob eb q => ⟨ob.slots, k b ob (by rintro rfl; rw [e] at eb; cases eb; exact q.elim hs ho) eb, fun _ => rfl⟩, fun b ob eb => by
  by_cases hb : b = a
  ·subst hb; exact ha
  ·exact ⟨ob, k b ob hb eb⟩⟩
theorem Ky {vs : Array Value} {n : Nat} : ¬ Imm { cls := .type "list", data := .seq vs n } := by
 rintro (⟨q, _⟩ | ⟨_, q⟩)
 ·exact absurd q (by simp)
 ·cases q
theorem Rel.turn {i : Nat} {x : Str} {d d' : D} {a : Addr} {o o' : Obj} (r : Rel G cx sc ρ S h) (bh : G.B.StaysIn cx.h₀) (hx : (Qf sc)[i]? = some x) (ht : ρ[i]? = some (some (.ow true d))) (hv : Var cx.env h x (.ref a))
  (e : h.get? a = some o) (hi : ¬ Imm o) (hc : ∀ v, o.data ≠ .cell v) (hl : cx.env.locals ≠ a) (k : Heap.SameBut a h h') (e' : h'.get? a = some o') (hdd : (∃ es n, o.data = .dict es n) → ∃ es n, o'.data = .dict es n) (hk : (∃ ks ds, d' = .dict ks ds) → ∃ ks ds, d = .dict ks ds) (q' : Ext S h S h' → Uh S h' a d') :
  Rel G cx sc (ρ.set i (some (.ow true d'))) S h' ∧ Ext S h S h' ∧ Qq cx.env h h' := by
 obtain ⟨w, hw, b, rfl, ns, _, hn⟩ := r.vars i x _ hx ht
 cases Var.inj hv hw
 have hn := hn rfl
 have x' : Ext S h S h' := RV.but e hi ns (fun b o hb eb => (k.2 b hb).trans eb) ⟨_, e'⟩
 have lt : i < ρ.length := (List.getElem?_eq_some_iff.mp ht).1
 have hcell : ∀ y c, cx.env.cells.lookup y = some c → c ≠ a := r.notCell e hc
 have nsame : ∀ m, h.Ns cx.env.locals m → h'.Ns cx.env.locals m := fun m n => n.sameBut k hl
 have csame : ∀ y c, cx.env.cells.lookup y = some c → ∀ w, h.IsCell c w → h'.IsCell c w := fun y c q w n => n.sameBut k (hcell y c q)
 have hb : Qq cx.env h h' := fun y w q => by
  rcases q with ⟨a, m₁, b, c⟩ | ⟨a, c, b, d⟩
  ·exact .inl ⟨a, m₁, nsame m₁ b, c⟩
  ·exact .inr ⟨a, c, b, csame y c b _ d⟩
 have hf : ∀ y w, Var cx.env h' y w → Var cx.env h y w := fun y w q => by
  rcases q with ⟨a, m₁, b, c⟩ | ⟨a, c, b, d⟩
  ·obtain ⟨m₀, n₀⟩ := r.ns
   exact .inl ⟨a, m₀, n₀, by rw [(nsame m₀ n₀).agree b y]; exact c⟩
  ·obtain ⟨w₀, n₀⟩ := r.cells y c b
   exact .inr ⟨a, c, b, by rw [IsCell.inj d (csame y c b _ n₀)]; exact n₀⟩
 have pick : ∀ (j : Nat) (u : T), (ρ.set i (some (T.ow true d')))[j]? = some (some u) → (j = i ∧ u = .ow true d') ∨ (j ≠ i ∧ ρ[j]? = some (some u)) := fun j u hj => by
  by_cases hji : j = i
  ·subst hji
   rw [List.getElem?_set_self lt] at hj; cases hj
   exact .inl ⟨rfl, rfl⟩
  ·rw [List.getElem?_set_ne (Ne.symm hji)] at hj
   exact .inr ⟨hji, hj⟩
 have old : ∀ (j : Nat) (m : Bool) (d₁ : D), (ρ.set i (some (T.ow true d')))[j]? = some (some (.ow m d₁)) → ∃ d₂, ρ[j]? = some (some (.ow m d₂)) ∧ ((∃ ks ds, d₁ = .dict ks ds) → ∃ ks ds, d₂ = .dict ks ds) := fun j m d₁ hj => by
  rcases pick j _ hj with ⟨rfl, q⟩ | ⟨_, q⟩
  ·cases q; exact ⟨_, ht, hk⟩
  ·exact ⟨d₁, q, id⟩
 refine ⟨⟨fun b o q => (k.2 b (by rintro rfl; rw [bh _ _ q] at hn; cases hn)).trans (r.base b o q), fun b o q => ?_, fun env he => ?_, let ⟨m, n⟩ := r.ns; ⟨m, nsame m n⟩, fun y c q => let ⟨w, n⟩ := r.cells y c q; ⟨w, csame y c q w n⟩, fun b q => let ⟨o, eo⟩ := r.sdom b q; x'.dom b o eo, r.sok, r.sloc, r.scell, fun y b hdy q => let ⟨o, eo⟩ := r.live y b hdy (hf y _ q); x'.dom b o eo, fun j y m d hy hj => ?_, fun v q => let ⟨C, e⟩ := r.hok v q; ⟨C, e.ext x'⟩, fun j y u hy hu => ?_, fun j l y z m m' d d' u hy hz hj hl a b => ?_, fun j y m ks ds hy hj hvy => ?_⟩, x', hb⟩
 ·obtain ⟨sl, q₁, k₁⟩ := r.keep b o q
  exact ⟨sl, (k.2 b (by rintro rfl; rw [q] at hn; cases hn)).trans q₁, k₁⟩
 ·obtain ⟨p, L, o₁, b, c, d, es, n, q⟩ := r.ff env he
  by_cases hLa : L = a
  ·subst hLa
   rw [e] at d; cases d
   obtain ⟨es', n', q₂⟩ := hdd ⟨es, n, q⟩
   exact ⟨p, L, _, b, c, e', es', n', q₂⟩
  ·exact ⟨p, L, o₁, b, c, (k.2 L hLa).trans d, es, n, q⟩
 ·obtain ⟨d', hj', _⟩ := old j m d hj
  exact r.clean j y m d' hy hj'
 ·rcases pick j u hu with ⟨rfl, rfl⟩ | ⟨hji, hu⟩
  ·rw [hx] at hy; cases hy
   exact ⟨_, hb _ _ hv, a, rfl, ns, q' x', fun _ => hn⟩
  ·obtain ⟨w, hw', tw⟩ := r.vars j y u hy hu
   refine ⟨w, hb y w hw', ?_⟩
   cases u with
   | sh d => exact RV.ext x' tw
   | ow m d =>
    obtain ⟨b, rfl, n1, ow, n2⟩ := tw
    refine ⟨b, rfl, n1, ow.ext x' fun o eo => ⟨o.slots, (k.2 b ?_).trans eo, fun _ => rfl⟩, n2⟩
    rintro rfl
    exact hji (r.inj j i y x m true d _ _ hy hx hu ht hw' hv)
 ·obtain ⟨d₁, h1, _⟩ := old j m d hj
  obtain ⟨d₂, h2, _⟩ := old l m' d' hl
  exact r.inj j l y z m m' d₁ d₂ u hy hz h1 h2 (hf y _ a) (hf z _ b)
 ·obtain ⟨d₁, h1, h2⟩ := old j m _ hj
  obtain ⟨ks', ds', rfl⟩ := h2 ⟨_, _, rfl⟩
  exact r.dok j y m ks' ds' hy h1 (hf y _ hvy)
theorem Rel.mutate {i : Nat} {x : Str} {ds ds' : List D} {a : Addr} {vs' : Array Value} {n' : Nat} (r : Rel G cx sc ρ S h) (bh : G.B.StaysIn cx.h₀) (hx : (Qf sc)[i]? = some x) (ht : ρ[i]? = some (some (.ow true (.list ds)))) (hv : Var cx.env h x (.ref a))
  (k : Heap.SameBut a h h') (e' : h'.get? a = some { cls := .type "list", data := .seq vs' n' }) (q' : RVs S h vs'.toList ds') :
  Rel G cx sc (ρ.set i (some (.ow true (.list ds')))) S h' ∧ Ext S h S h' ∧ Qq cx.env h h' := by
 obtain ⟨w, hw, b, rfl, ns, ⟨vs, n, e, q⟩, hn⟩ := r.vars i x _ hx ht
 cases Var.inj hv hw
 have hl : cx.env.locals ≠ a := by
  rintro rfl
  obtain ⟨m', o', es, ep, e', hd', _⟩ := r.ns
  rw [e] at e'; cases e'; cases hd'
 exact r.turn bh hx ht hv e Ky (by intro v q; cases q) hl k e' (by rintro ⟨_, _, q⟩; cases q) (by rintro ⟨_, _, q⟩; cases q) fun x' => ⟨vs', n', e', q'.ext x'⟩
end
noncomputable def XD (ρ : AEnv) (i : Nat) : Option (List D) := match ρ[i]? with
 | some (some (.ow true (.list ds))) => if ds.length ≤ 1000000 then some ds else none
 | _ => none
set_option tactic.hygienic true in
theorem ZB {ρ : AEnv} {i : Nat} {ds : List D} (h : XD ρ i = some ds) : ρ[i]? = some (some (.ow true (.list ds))) ∧ ds.length ≤ 1000000 := by
 unfold XD at h
 split at h
 ·rename_i ds' e
  split at h
  ·cases h; exact ⟨e, by assumption⟩
  ·cases h
 ·cases h
inductive OwnL (cx : Cx) (S : Addr → Prop) (h : Heap) (x : Str) (ds : List D) : Prop
 | mk (a : Addr) (vs : Array Value) (n : Nat) (hv : Var cx.env h x (.ref a)) (e : h.get? a = some { cls := .type "list", data := .seq vs n }) (q : RVs S h vs.toList ds) (hs : vs.size = ds.length) : OwnL cx S h x ds
theorem Rel.own {G : Gd} {cx : Cx} {sc : Scope} {ρ : AEnv} {S : Addr → Prop} {h : Heap} {i : Nat} {x : Str} {ds : List D} (r : Rel G cx sc ρ S h) (hx : (Qf sc)[i]? = some x) (ht : ρ[i]? = some (some (.ow true (.list ds)))) :
  OwnL cx S h x ds := by
 obtain ⟨w, hw, a, rfl, _, ⟨vs, n, e, q⟩, _⟩ := r.vars i x _ hx ht
 exact ⟨a, vs, n, hw, e, q, by rw [← q.length]; simp⟩
theorem Y7 {h : Heap} {a : Addr} {vs : Array Value} {n : Nat} (f : Array Value → Array Value) (e : h.get? a = some { cls := .type "list", data := .seq vs n }) : ∃ n', (h.update a (Obj.mapSeq f)).get? a = some { cls := .type "list", data := .seq (f vs) n' } := by
 have := Heap.get?_update_self (Obj.mapSeq f) e (by rfl)
 exact ⟨_, this⟩
noncomputable def YE (i : Nat) (f : AEnv → Res T) : AEnv → Res T := fun ρ => ob (XD ρ i) fun _ => (f ρ).bind fun t ρ₁ => ob (XD ρ₁ i) fun ds => .ok (.sh .none) (ρ₁.set i (some (.ow true (.list (ds ++ [t.val])))))
noncomputable def UY (G : Gd) (k : Nat) (sc : Scope) (e : Expr) (f : AEnv → Res T) : Prop :=
 ∀ cx, CxOk G cx sc k → FnOk G cx → ∀ ρ S s, Rel G cx sc ρ S s.heap → Qk G cx sc true (eval e cx.env) S s (fun S' h' v t => Yp cx S' h' v t) (f ρ)
theorem UY.of {G : Gd} {k : Nat} {sc : Scope} {e : Expr} {f : AEnv → Res T} (h : Sim G k sc e f) : UY G k sc e f := fun cx ok _ => h cx ok
section
variable {G : Gd} {k : Nat} {sc : Scope}
theorem C4 {x : Str} {p apos pos : Pos} {e : Expr} {i : Nat} {f : AEnv → Res T} (he : UY G k sc e f) (hx : (Qf sc)[i]? = some x) (hd : (x == ("__debug__" : Str)) = false) (hn : (x == ("__classdict__" : Str)) = false)
  (hu : ∀ env, backTo pos (starEach [e] env) = [(false, eval e env)]) (hline : (apos.endLine == pos.line) = true) : UY G k sc (.Call (.Attribute (.Name x p) "append" apos) [e] [] pos) (YE i f) := by
 intro cx ok fn ρ S s r Q E out
 obtain ⟨ds₀, h0, out⟩ := out.ob
 obtain ⟨t0, l0⟩ := ZB h0
 obtain ⟨a, vs, n, hv, ho, q, hsz⟩ := r.own hx t0
 refine wpAny_Call_method rfl (by rw [hu]; rfl) hline F.plainAttrs_list F.slot_list_append F.type_list_append ?_
 refine wpAny_Name (Xr (ok.mono (Nat.zero_le _)) hv hn rfl ?_) hd
 refine ⟨⟨_, ho, rfl⟩, fun b eb => (by cases eb; exact ⟨_, ho, rfl⟩), ?_⟩
 rw [hu]
 refine PySem.P.append_list ((he cx ok fn ρ S s r).shared _ _ (out.step0S fun t ρ₁ out v h₁ t₁ S₁ r₁ j₁ x₁ v₁ => ?_))
 obtain ⟨ds, h1, out⟩ := out.ob
 obtain ⟨e1, l1⟩ := ZB h1
 obtain ⟨a', vs', n', hv', ho', q', hsz'⟩ := r₁.own hx e1
 cases Var.inj hv' (v₁ rfl x _ hv)
 refine ⟨vs', n', by rw [hsz', sizeLine_eq]; exact Nat.le_trans l1 (by decide), ho', ?_⟩
 obtain ⟨m', hm'⟩ := Y7 (fun xs => xs.push v) ho'
 obtain ⟨r₂, x₂, v₂⟩ := r₁.mutate fn.bh hx e1 hv' (Heap.SameBut.update ..) hm' (ds' := ds ++ [t.val]) (by rw [Array.toList_push]; exact RVs.append (.cons j₁ .nil) q')
 exact out _ _ t₁ S₁ r₂ .none (x₁.trans x₂) fun z => (v₁ z).trans v₂
theorem Do {e : Expr} {pos : Pos} {f : AEnv → Res T} (h : UY G k sc e f) (hs : ∀ env : Env, swapsWith e none pos.line env = pure false) : YY G k sc (.Expr e pos) (Zd (Qc f)) := by
 intro cx ok fn ρ S s r Q E out
 refine wpAny_Expr_any ?_ (by unfold interactive; rw [ok.hsc, ok.hk]; rfl) (hs cx.env)
 refine h cx ok fn ρ S s r _ _ ?_
 unfold Zd Qc at out
 cases hf : f ρ with
 | stuck => rw [hf] at out; exact out
 | exc C ρ' => rw [hf] at out; exact out
 | ok t ρ' => rw [hf] at out; intro v h' tk S' rel j x vs; exact out .next h' tk S' rel trivial x fun q => by cases q
theorem OV {prog : Program} {w : World} {A : Around} {E : Value → Shared → Prop} {s : Shared} {l : Addr} {o : Obj} {items : Array Value} {n : Nat} {i : Int} {t : Tok} {v : Value} {Q : Unit → Shared → Prop} (ho : s.heap.get? l = some o) (hc : o.cls = .type "list") (hd : o.data = .seq items n)
  (h0 : 0 ≤ i) (hfit : i < 2 ^ 63) (hn : i < items.size) (hQ : Q () { s with heap := s.heap.update l (Obj.mapSeq (·.setIfInBounds i.toNat v)) }) : wpAny (model prog w) A (setItem (.ref l) (.int i t) v) Q E s := by
 have hT : s.TypeIs (.ref l) "list" := ⟨o, ho, hc⟩
 unfold setItem
 try with_reducible refine wpAny_holding ?_
 first | refine wpAny_bind (wpAny_pure ?_) | skip
 refine wpAny_bind (wpAny_sequenceKey hT (by decide) ?_)
 refine wpAny_bind (wpAny_callSpecial?_slot (name := Str.ofString "__setitem__") hT slot_list_setitem
  (wpAny_call_entry slot_list_setitem hT entry_list_setitem ?_ (args_list_setitem _ _ _)))
 show wpAny _ _ (Builtin.List.listSubscript? (.int i t) >>= _) _ _ s
 refine wpAny_bind (wpAny_listSubscript_int (fitsIndex_of h0 hfit) ?_)
 clear hfit
 obtain ⟨j, rfl⟩ := Int.eq_ofNat_of_zero_le h0
 have hj : j < items.size := by (simpa using hn)
 have hx' : items[j]? = some items[j] := Array.getElem?_eq_getElem hj
 show wpAny _ _ ((seqItemAt l j >>= fun r => pure (r.map (j, ·))) >>= _) _ _ s
 refine wpAny_bind (wpAny_bind (wpAny_seqItemAt ho hd (wpAny_pure ?_)))
 rw [hx']
 show wpAny _ _ (setSeqItemAt l j v >>= _) _ _ s
 refine wpAny_bind (wpAny_setSeqItemAt ho hd ?_)
 first
  | exact wpAny_bind (wpAny_pure (wpAny_pure ⟨.none, rfl, wpAny_pure hQ⟩))
  | exact wpAny_pure ⟨.none, rfl, wpAny_pure hQ⟩
noncomputable def X5 (i : Nat) (f : AEnv → Res Bv) (g : AEnv → Res T) : AEnv → Res Fl := fun ρ => (g ρ).bind fun t ρ₁ => ob (XD ρ₁ i) fun _ => (f ρ₁).bind fun b ρ₂ => ob ((b.get ρ₂).bind asI) fun j => ob (XD ρ₂ i) fun ds => if 0 ≤ j ∧ j < ds.length then .ok .next (ρ₂.set i (some (.ow true (.list (ds.set j.toNat t.val))))) else .stuck
theorem VV {x : Str} {p ip pos : Pos} {ix value : Expr} {i : Nat} {f : AEnv → Res Bv} {g : AEnv → Res T} (hf : Qh G k sc ix f) (hg : Sim G k sc value g) (hx : (Qf sc)[i]? = some x) (hd : (x == ("__debug__" : Str)) = false) (hn : (x == ("__classdict__" : Str)) = false)
  (hs : ∀ env : Env, env.scope = sc → swapsWithSole [.Subscript (.Name x p) ix ip] value pos.line env = pure false) (hw : ∀ env : Env, swappedStores [.Subscript (.Name x p) ix ip] value env = pure none) :
  YY G k sc (.Assign [.Subscript (.Name x p) ix ip] value pos) (X5 i f g) := by
 intro cx ok fn ρ S s r Q E out
 rw [exec_Assign]
 refine wpAny_bind (wpAny_standAt ?_)
 rw [hs cx.env ok.hsc]
 refine wpAny_bind (wpAny_pure ?_)
 rw [if_neg (by decide)]
 refine wpAny_bind ((hg cx ok ρ S s r).shared _ _ ?_)
 refine out.step0S fun t ρ₁ out v h₁ t₁ S₁ r₁ j₁ x₁ v₁ => ?_
 rw [hw]
 refine wpAny_bind (wpAny_pure ?_)
 show wpAny _ _ (do assignAll v [assign (.Subscript (.Name x p) ix ip) cx.env]; pure .next) Q E _
 refine wpAny_bind ?_
 show wpAny _ _ (assign (.Subscript (.Name x p) ix ip) cx.env v) _ E _
 rw [arm_assign_Subscript]
 obtain ⟨ds₀, h0, out⟩ := out.ob
 obtain ⟨t0, l0⟩ := ZB h0
 obtain ⟨a, vs, n, hv, ho, q, hsz⟩ := r₁.own hx t0
 refine wpAny_bind (wpAny_holding (wpAny_Name (Xr (ok.mono (Nat.zero_le _)) hv hn rfl ?_) hd))
 refine wpAny_bind (wpAny_holding (hf cx ok ρ₁ S₁ { s with heap := h₁, toks := t₁ } r₁ _ _ (out.step x₁ fun b ρ₂ out iv h₂ t₂ S₂ r₂ j₂ x₂ v₂ => ?_)))
 refine wpAny_bind (wpAny_standAt ?_)
 obtain ⟨j, hj, out⟩ := out.ob
 obtain ⟨ds, h1, out⟩ := out.ob
 obtain ⟨hb, out⟩ := out.when
 obtain ⟨u, rfl⟩ := (ZT.rb j₂ r₂ (IB hj)).int
 obtain ⟨e1, l1⟩ := ZB h1
 obtain ⟨a', vs', n', hv', ho', q', hsz'⟩ := r₂.own hx e1
 cases Var.inj hv' (v₂ rfl x _ hv)
 refine wpAny_bind (wpAny_holding (OV ho' rfl rfl hb.1 (by lia) (by lia) ?_))
 obtain ⟨m', hm'⟩ := Y7 (fun xs => xs.setIfInBounds j.toNat v) ho'
 obtain ⟨r₃, x₃, v₃⟩ := r₂.mutate fn.bh hx e1 hv' (Heap.SameBut.update ..) hm' (ds' := ds.set j.toNat t.val) (by
  rw [Array.toList_setIfInBounds]; exact q'.set (j₁.ext x₂) _)
 exact wpAny_release (wpAny_pure (out .next _ t₂ S₂ r₃ trivial ((x₁.trans x₂).trans x₃) fun z => by cases z))
end
theorem OY : entryFor table "proto.unchain" = some Builtin.«proto.unchain» := entryFor_of_tree (by kernel_rfl)
noncomputable def HOk (A : Around) (h : Heap) : Prop := ∀ v, A.handled = some v → ∃ a o vs, v = .ref a ∧ h.get? a = some o ∧ o.data = .fields vs ∧ vs[2]? = some .none
theorem HOk.keeps {A : Around} {h h' : Heap} (q : HOk A h) (k : ∀ b o vs, h.get? b = some o → o.data = .fields vs → vs[2]? = some .none → ∃ o' vs', h'.get? b = some o' ∧ o'.data = .fields vs' ∧ vs'[2]? = some .none) : HOk A h' := fun v e => by
 obtain ⟨a, o, vs, rfl, h1, h2, h3⟩ := q v e
 obtain ⟨o', vs', k1, k2, k3⟩ := k a o vs h1 h2 h3
 exact ⟨a, o', vs', rfl, k1, k2, k3⟩
theorem Rel.hOk {G : Gd} {cx : Cx} {sc : Scope} {ρ : AEnv} {S : Addr → Prop} {h : Heap} (r : Rel G cx sc ρ S h) : HOk cx.A h := fun v e => by
 obtain ⟨C, q⟩ := r.hok v e
 cases q with
 | exc h1 h2 h3 h4 h5 => exact ⟨_, _, _, rfl, h1, h4, h5⟩
section
variable {prog : Program} {w : World} {A : Around} {E : Value → Shared → Prop} {s : Shared}
theorem KN {α : Type} {Q : α → Shared → Prop} (hh : HOk A s.heap)
  (hE : ∀ h' e, (∀ b o, s.heap.get? b = some o → h'.get? b = some o) → (∃ o, h'.get? e = some o ∧ o.cls = .type "StopIteration") → E (.ref e) { s with heap := h' }) :
  wpAny (model prog w) A (newExc (.type "StopIteration") [] >>= fun e => (raiseNew e : Sem α)) Q E s := by
 refine wpAny_bind ?_
 simp only [newExc, newTuple]
 refine wpAny_bind (wpAny_newObj_type ?_ (by size_fits))
 refine wpAny_bind (m := firstArgMember _ _) (wpAny_of_eq (a := Value.none) (by first | rfl | (simp only [firstArgMember]; rfl)) ?_)
 refine wpAny_newObj_type ?_ (by size_fits)
 simp only [raiseNew]
 refine wpAny_bind (wpAny_handled ?_)
 generalize ho1 : ({ cls := Value.type "tuple", data := Data.seq ([] : List Value).toArray } : Obj) = o1
 generalize ho2 : ({ cls := Value.type "StopIteration", data := _ } : Obj) = o2
 have keep : ∀ b o, s.heap.get? b = some o → ((s.heap.push o1).push o2).get? b = some o := fun b o e => Heap.get?_push_of_some _ (Heap.get?_push_of_some _ e)
 have hnew : ((s.heap.push o1).push o2).get? (s.heap.push o1).objs.size = some o2 := Heap.get?_push_size _ (by subst ho2; rfl)
 have hcls : o2.cls = .type "StopIteration" := by subst ho2; rfl
 cases hA : A.handled with
 | none => exact wpAny_bind (wpAny_pure (wpAny_throw (hE _ _ keep ⟨_, hnew, hcls⟩)))
 | some v =>
  obtain ⟨a, o, vs, rfl, h1, h2, h3⟩ := hh v hA
  have hne : (Value.ref a != Value.ref (s.heap.push o1).objs.size) = true := by
   have := Heap.lt_size h1
   rw [bne_iff_ne]
   intro q
   rw [Value.ref.injEq, Heap.size_push] at q
   exact absurd this (by rw [q]; exact Nat.not_lt.mpr (Nat.le_succ _))
  simp only [hne, if_true]
  have hd2 : ∃ ws, o2.data = .fields ws ∧ 2 < ws.size := by subst ho2; exact ⟨_, rfl, by rw [Array.size_append]; simp; exact Nat.le_add_left _ _⟩
  obtain ⟨ws, hws, hsz⟩ := hd2
  refine wpAny_bind (wpAny_holding (wpAny_runValue (codeAny_builtin OY ?_)))
  show wpAny _ _ (do
   let context ← field (.ref a) 2
   if context == .none then return ← ret .none
   if context == .ref (s.heap.push o1).objs.size then
    rule "raise.context-cycle-cut"
    setField (.ref a) 2 .none
    return ← ret .none
   if context == .ref a then rule "raise.context-old-cycle"; return ← ret .none
   let slow ← (if false then field (.ref a) 2 else pure (.ref a))
   again (.builtin "proto.unchain" ⟨[.ref (s.heap.push o1).objs.size, context, slow, .bool !false], []⟩)) _ _ _
  refine wpAny_bind (wpAny_field (keep a o h1) h2 h3 ?_)
  rw [if_pos (by rfl)]
  refine wpAny_bind (wpAny_pure (wpAny_pure ?_))
  refine wpAny_bind ?_
  show wpAny _ _ (setField (.ref (s.heap.push o1).objs.size) 2 (.ref a)) _ _ _
  refine wpAny_setField hnew hws hsz (wpAny_throw (hE _ _ (fun b o e => ?_) ⟨_, Heap.get?_update_self _ hnew (Obj.isFreed_of_fields (Obj.data_mapFields hws _)), (Obj.cls_mapFields ..).trans hcls⟩))
  refine (Heap.get?_update_other _ _ ?_).trans (keep b o e)
  have := Heap.lt_size e
  rw [Heap.size_push]
  exact fun q => absurd this (by rw [← q]; exact Nat.not_lt.mpr (Nat.le_succ _))
noncomputable def KB (wr : List Addr) (h h' : Heap) : Prop := (∀ b o, b ∉ wr → h.get? b = some o → h'.get? b = some o) ∧ ∀ b ∈ wr, ∃ o, h'.get? b = some o
theorem Jb {it l : Addr} {i : Nat} {o ol : Obj} {items : Array Value} {nl : Nat} {P : Fin → Shared → Prop} (hh : HOk A s.heap) (ho : s.heap.get? it = some o) (hd : o.data = .fields #[.ref l, .int i 0]) (hol : s.heap.get? l = some ol) (hdl : ol.data = .seq items nl) (hx : items[i]? = none) (hni : ∀ v, A.handled = some v → v ≠ .ref it)
  (hE : ∀ h' e, KB [it] s.heap h' → (∃ o, h'.get? e = some o ∧ o.cls = .type "StopIteration") → E (.ref e) { s with heap := h' }) :
  wpAny (model prog w) A (Builtin.«list_iterator.__next__» ⟨[.ref it], []⟩) P E s := by
 show wpAny _ _ (field (.ref it) 0 >>= _) _ _ s
 refine wpAny_bind (wpAny_field ho hd (x := .ref l) rfl ?_)
 show wpAny _ _ (if (Value.ref l == Value.none) = true then _ else _) _ _ s
 rw [if_neg (show ¬ ((Value.ref l == Value.none) = true) from Bool.false_ne_true)]
 show wpAny _ _ (field (.ref it) 1 >>= _) _ _ s
 refine wpAny_bind (wpAny_field ho hd (x := .int i 0) rfl ?_)
 show wpAny _ _ (seqItems? (.ref l) >>= _) _ _ s
 refine wpAny_bind (wpAny_seqItems hol hdl ?_)
 simp only [Int.toNat_natCast, hx]
 refine wpAny_bind (wpAny_rule (wpAny_bind (wpAny_setField ho hd (by simp) ?_)))
 have self := Heap.get?_update_self (Obj.mapFields (·.setIfInBounds 0 Value.none)) ho (Obj.isFreed_of_fields (Obj.data_mapFields hd _))
 have oth : ∀ b o, b ≠ it → s.heap.get? b = some o → (s.heap.update it (Obj.mapFields (·.setIfInBounds 0 Value.none))).get? b = some o := fun b o hb e => (Heap.get?_update_other _ _ (Ne.symm hb)).trans e
 show wpAny _ _ (newExc (.type "StopIteration") [] >>= fun e => raiseNew e) _ _ _
 refine KN (s := { s with heap := s.heap.update it (Obj.mapFields (·.setIfInBounds 0 Value.none)) }) (fun v e => ?_) fun h' e k he => hE h' e ⟨fun b o hb eb => k b o (oth b o (by simpa using hb) eb), fun b hb => by cases List.mem_singleton.mp hb; exact ⟨_, k _ _ self⟩⟩ he
 obtain ⟨a, o', vs, rfl, h1, h2, h3⟩ := hh v e
 exact ⟨a, o', vs, rfl, oth a o' (fun q => hni _ e (by rw [q])) h1, h2, h3⟩
theorem Jf {it l : Addr} {i : Nat} {o ol : Obj} {items : Array Value} {nl : Nat} {Q : Option Value → Shared → Prop} 
  (hh : HOk A s.heap) (ho : s.heap.get? it = some o) (hc : o.cls = .type "list_iterator") (hd : o.data = .fields #[.ref l, .int i 0]) (hol : s.heap.get? l = some ol) (hdl : ol.data = .seq items nl) (hx : items[i]? = none) (hni : ∀ v, A.handled = some v → v ≠ .ref it)
  (hQ : ∀ h', KB [it] s.heap h' → Q none { s with heap := h' }) : wpAny (model prog w) A (pyNext (.ref it)) Q E s := by
 have hT : s.TypeIs (.ref it) "list_iterator" := ⟨o, ho, hc⟩
 unfold pyNext
 refine wpAny_bind (wpAny_attempt (wpAny_callSpecial?_slot (name := Str.ofString "__next__") hT slot_listiter_next (wpAny_call_entry slot_listiter_next hT entry_listiter_next ?_ (args_listiter_next _))))
 refine Jb (A := A.in1) hh ho hd hol hdl hx hni fun h' e k he => ?_
 obtain ⟨oe, he, hce⟩ := he
 refine wpAny_bind (wpAny_isInstance (T := "StopIteration") (b := true) ⟨_, he, hce⟩ isSubtype_stop ?_)
 exact wpAny_pure (hQ _ k)
theorem YO {it l : Addr} {i : Nat} {o ol : Obj} {items : Array Value} {nl : Nat} {P : Fin → Shared → Prop} (hh : HOk A s.heap) (ho : s.heap.get? it = some o) (hd : o.data = .fields #[.ref l, .int i 0]) (hol : s.heap.get? l = some ol) (hdl : ol.data = .seq items nl) (hx : items[i]? = none) (hni : ∀ v, A.handled = some v → v ≠ .ref it)
  (hE : ∀ h' e, KB [it] s.heap h' → (∃ o, h'.get? e = some o ∧ o.cls = .type "StopIteration") → E (.ref e) { s with heap := h' }) :
  wpAny (model prog w) A (Builtin.«tuple_iterator.__next__» ⟨[.ref it], []⟩) P E s := by
 show wpAny _ _ (field (.ref it) 0 >>= _) _ _ s
 refine wpAny_bind (wpAny_field ho hd (x := .ref l) rfl ?_)
 show wpAny _ _ (if (Value.ref l == Value.none) = true then _ else _) _ _ s
 rw [if_neg (show ¬ ((Value.ref l == Value.none) = true) from Bool.false_ne_true)]
 show wpAny _ _ (field (.ref it) 1 >>= _) _ _ s
 refine wpAny_bind (wpAny_field ho hd (x := .int i 0) rfl ?_)
 show wpAny _ _ (seqItems? (.ref l) >>= _) _ _ s
 refine wpAny_bind (wpAny_seqItems hol hdl ?_)
 simp only [Int.toNat_natCast, hx]
 refine wpAny_bind (wpAny_rule (wpAny_bind (wpAny_setField ho hd (by simp) ?_)))
 have self := Heap.get?_update_self (Obj.mapFields (·.setIfInBounds 0 Value.none)) ho (Obj.isFreed_of_fields (Obj.data_mapFields hd _))
 have oth : ∀ b o, b ≠ it → s.heap.get? b = some o → (s.heap.update it (Obj.mapFields (·.setIfInBounds 0 Value.none))).get? b = some o := fun b o hb e => (Heap.get?_update_other _ _ (Ne.symm hb)).trans e
 show wpAny _ _ (newExc (.type "StopIteration") [] >>= fun e => raiseNew e) _ _ _
 refine KN (s := { s with heap := s.heap.update it (Obj.mapFields (·.setIfInBounds 0 Value.none)) }) (fun v e => ?_) fun h' e k he => hE h' e ⟨fun b o hb eb => k b o (oth b o (by simpa using hb) eb), fun b hb => by cases List.mem_singleton.mp hb; exact ⟨_, k _ _ self⟩⟩ he
 obtain ⟨a, o', vs, rfl, h1, h2, h3⟩ := hh v e
 exact ⟨a, o', vs, rfl, oth a o' (fun q => hni _ e (by rw [q])) h1, h2, h3⟩
theorem Y1 {it l : Addr} {i : Nat} {o ol : Obj} {items : Array Value} {nl : Nat} {Q : Option Value → Shared → Prop} 
  (hh : HOk A s.heap) (ho : s.heap.get? it = some o) (hc : o.cls = .type "tuple_iterator") (hd : o.data = .fields #[.ref l, .int i 0]) (hol : s.heap.get? l = some ol) (hdl : ol.data = .seq items nl) (hx : items[i]? = none) (hni : ∀ v, A.handled = some v → v ≠ .ref it)
  (hQ : ∀ h', KB [it] s.heap h' → Q none { s with heap := h' }) : wpAny (model prog w) A (pyNext (.ref it)) Q E s := by
 have hT : s.TypeIs (.ref it) "tuple_iterator" := ⟨o, ho, hc⟩
 unfold pyNext
 refine wpAny_bind (wpAny_attempt (wpAny_callSpecial?_slot (name := Str.ofString "__next__") hT slot_tupleiter_next (wpAny_call_entry slot_tupleiter_next hT entry_tupleiter_next ?_ (args_tupleiter_next _))))
 refine YO (A := A.in1) hh ho hd hol hdl hx hni fun h' e k he => ?_
 obtain ⟨oe, he, hce⟩ := he
 refine wpAny_bind (wpAny_isInstance (T := "StopIteration") (b := true) ⟨_, he, hce⟩ isSubtype_stop ?_)
 exact wpAny_pure (hQ _ k)
theorem K1 {it : Addr} {x left step : Int} {Q : Option Value → Shared → Prop} (hh : HOk A s.heap) (hit : IsRangeIter s.heap it x left step) (hleft : left ≤ 0)
  (hQ : ∀ h', KB [it] s.heap h' → Q none { s with heap := h' }) : wpAny (model prog w) A (pyNext (.ref it)) Q E s := by
 have hT : s.TypeIs (.ref it) "range_iterator" := ⟨_, hit, rfl⟩
 unfold pyNext
 refine wpAny_bind (wpAny_attempt (wpAny_callSpecial?_slot (name := Str.ofString "__next__") hT F.slot_range_iterator_next
  (wpAny_call_entry F.slot_range_iterator_next hT F.entry_range_iterator_next ?_ (F.args_range_iterator_next_1 _))))
 show wpAny _ _ (field (.ref it) 0 >>= _) _ _ s
 refine wpAny_bind (wpAny_field hit rfl (x := rawInt x) rfl ?_)
 show wpAny _ _ (field (.ref it) 1 >>= _) _ _ s
 refine wpAny_bind (wpAny_field hit rfl (x := rawInt left) rfl ?_)
 show wpAny _ _ (field (.ref it) 2 >>= _) _ _ s
 refine wpAny_bind (wpAny_field hit rfl (x := rawInt step) rfl ?_)
 show wpAny _ _ (if left ≤ 0 then _ else _) _ _ s
 rw [if_pos hleft]
 refine wpAny_bind (wpAny_rule ?_)
 refine wpAny_bind ?_
 show wpAny _ _ (newExc (.type "StopIteration") [] >>= fun e => raiseNew e) _ _ _
 refine KN (A := A.in1) hh fun h' e k he => ?_
 obtain ⟨oe, he, hce⟩ := he
 refine wpAny_bind (wpAny_isInstance (T := "StopIteration") (b := true) ⟨_, he, hce⟩ isSubtype_stop ?_)
 exact wpAny_pure (hQ _ ⟨fun b o _ e => k b o e, fun b hb => by cases List.mem_singleton.mp hb; exact ⟨_, k _ _ hit⟩⟩)
end
noncomputable def XJ (o : Obj) : Prop := ∃ T vs, o.cls = .type T ∧ T ≠ "tuple" ∧ T ≠ "list" ∧ T ≠ "range" ∧ o.data = .fields vs
section
variable {G : Gd} {cx : Cx} {sc : Scope} {ρ : AEnv} {S : Addr → Prop} {h h' : Heap} {wr : List Addr}
theorem KB.carry (sh : ∀ b ∈ wr, ∃ o, h.get? b = some o ∧ XJ o) (k : KB wr h h') : Carry S h S h' where
 tup := fun e hc hd => k.1 _ _ (fun m => by obtain ⟨o, e', T, vs, h1, h2, h3, h4, h5⟩ := sh _ m; rw [e] at e'; cases e'; rw [hc] at h1; cases h1; exact h2 rfl) e
 list := fun hs e hc hd => ⟨hs, k.1 _ _ (fun m => by obtain ⟨o, e', T, vs, h1, h2, h3, h4, h5⟩ := sh _ m; rw [e] at e'; cases e'; rw [hc] at h1; cases h1; exact h3 rfl) e⟩
 range := fun e => k.1 _ _ (fun m => by obtain ⟨o, e', T, vs, h1, h2, h3, h4, h5⟩ := sh _ m; unfold IsRange at e; rw [e] at e'; cases e'; cases h1; exact h4 rfl) e
 exc := fun e hc hn hd r => .exc (k.1 _ _ (fun m => by obtain ⟨o, e', T, vs, h1, h2, h3, h4, h5⟩ := sh _ m; rw [e] at e'; cases e'; rw [hc] at h1; cases h1) e) hc hn hd r
 dom := fun a o e' => by
  by_cases hb : a ∈ wr
  ·exact k.2 a hb
  ·exact ⟨o, k.1 a o hb e'⟩
 obj := fun s1 s2 e n => ⟨s1, s2, k.1 _ _ (fun m => by obtain ⟨o, e', T, vs, h1, h2, h3, h4, h5⟩ := sh _ m; rw [e] at e'; cases e'; cases h1) e, by
  obtain ⟨o, es, ep, ho, hd, q⟩ := n
  exact ⟨o, es, ep, k.1 _ _ (fun m => by obtain ⟨o', e', T, vs, _, _, _, _, h5⟩ := sh _ m; rw [ho] at e'; cases e'; rw [hd] at h5; cases h5) ho, hd, q⟩⟩
theorem RV.aside (sh : ∀ b ∈ wr, ∃ o, h.get? b = some o ∧ XJ o) (k : KB wr h h') {v : Value} {d : D} (q : RV S h v d) : RV S h' v d := q.map (k.carry sh)
theorem RVs.aside (sh : ∀ b ∈ wr, ∃ o, h.get? b = some o ∧ XJ o) (k : KB wr h h') {vs : List Value} {ds : List D} (q : RVs S h vs ds) : RVs S h' vs ds := q.map (k.carry sh)
theorem KB.dom (k : KB wr h h') {b : Addr} {o : Obj} (e : h.get? b = some o) : ∃ o', h'.get? b = some o' := by
 by_cases hb : b ∈ wr
 ·exact k.2 b hb
 ·exact ⟨o, k.1 b o hb e⟩
theorem Rel.aside (r : Rel G cx sc ρ S h) (sh : ∀ b ∈ wr, ∃ o, h.get? b = some o ∧ XJ o) (new : ∀ b ∈ wr, cx.h₀.get? b = none ∧ G.B.get? b = none) (k : KB wr h h') : Rel G cx sc ρ S h' ∧ Qq cx.env h h' := by
 have nw : ∀ (a : Addr) (o : Obj), h.get? a = some o → (∀ vs, o.data ≠ .fields vs) → a ∉ wr := fun a o e hd m => by
  obtain ⟨o', e', T, vs, _, _, _, _, q⟩ := sh a m
  rw [e] at e'; cases e'; exact hd vs q
 have nsame : ∀ m, h.Ns cx.env.locals m → h'.Ns cx.env.locals m := fun m n => by
  obtain ⟨o, es, ep, ho, hd, q⟩ := n
  exact ⟨o, es, ep, k.1 _ _ (nw _ _ ho (by rw [hd]; intro vs q; cases q)) ho, hd, q⟩
 have csame : ∀ c w, h.IsCell c w → h'.IsCell c w := fun c w n => by
  obtain ⟨o, ho, hd⟩ := n
  exact ⟨o, k.1 _ _ (nw _ _ ho (by rw [hd]; intro vs q; cases q)) ho, hd⟩
 have hb : Qq cx.env h h' := fun y w q => by
  rcases q with ⟨a, m₁, b, c⟩ | ⟨a, c, b, d⟩
  ·exact .inl ⟨a, m₁, nsame m₁ b, c⟩
  ·exact .inr ⟨a, c, b, csame c _ d⟩
 have hf : ∀ y w, Var cx.env h' y w → Var cx.env h y w := fun y w q => by
  rcases q with ⟨a, m₁, b, c⟩ | ⟨a, c, b, d⟩
  ·obtain ⟨m₀, n₀⟩ := r.ns
   exact .inl ⟨a, m₀, n₀, by rw [(nsame m₀ n₀).agree b y]; exact c⟩
  ·obtain ⟨w₀, n₀⟩ := r.cells y c b
   exact .inr ⟨a, c, b, by rw [IsCell.inj d (csame c _ n₀)]; exact n₀⟩
 refine ⟨⟨fun b o q => k.1 b o (fun m => by rw [(new b m).2] at q; cases q) (r.base b o q), fun b o q => ?_, fun env he => ?_, let ⟨m, n⟩ := r.ns; ⟨m, nsame m n⟩, fun y c q => let ⟨w, n⟩ := r.cells y c q; ⟨w, csame c w n⟩, fun b q => let ⟨o, eo⟩ := r.sdom b q; k.dom eo, r.sok, r.sloc, r.scell, fun y b hdy q => let ⟨o, eo⟩ := r.live y b hdy (hf y _ q); k.dom eo, r.clean, fun v q => let ⟨C, e⟩ := r.hok v q; ⟨C, e.aside sh k⟩, fun j y u hy hu => ?_, fun j l y z m m' d d' u hy hz hj hl a b => r.inj j l y z m m' d d' u hy hz hj hl (hf y _ a) (hf z _ b), r.dok.back hf⟩, hb⟩
 ·obtain ⟨sl, q₁, k₁⟩ := r.keep b o q
  exact ⟨sl, k.1 b _ (fun m => by rw [(new b m).1] at q; cases q) q₁, k₁⟩
 ·obtain ⟨p, L, o, b, c, d, es, n, q⟩ := r.ff env he
  exact ⟨p, L, o, b, c, k.1 L o (nw _ _ d (by rw [q]; intro vs q; cases q)) d, es, n, q⟩
 ·obtain ⟨w, hw', tw⟩ := r.vars j y u hy hu
  refine ⟨w, hb y w hw', ?_⟩
  cases u with
  | sh d => exact RV.aside sh k tw
  | ow m d =>
   obtain ⟨b, rfl, n1, ow, n2⟩ := tw
   refine ⟨b, rfl, n1, ?_, n2⟩
   exact ow.map (k.carry sh) fun o e hd => ⟨o.slots, k.1 b _ (nw _ _ e (by rcases hd with ⟨_, _, hd⟩ | ⟨_, _, hd⟩ <;> (rw [hd]; intro vs q; cases q))) e, fun _ => rfl⟩
theorem Ext.aside {S₀ : Addr → Prop} {h₀ : Heap} (x : Ext S₀ h₀ S h) (new : ∀ b ∈ wr, h₀.get? b = Option.none) (k : KB wr h h') : Ext S₀ h₀ S h' :=
 ⟨x.sub, fun b o e q => by
  obtain ⟨sl, e₁, k₁⟩ := x.keep b o e q
  exact ⟨sl, k.1 b _ (fun m => by rw [new b m] at e; cases e) e₁, k₁⟩, fun b o e => by
  obtain ⟨o', e'⟩ := x.dom b o e
  exact k.dom e'⟩
end
structure ItK (G : Gd) (A : Around) (tg : Expr) (I : Addr) (wr : List Addr) (St : Nat → (Addr → Prop) → Heap → Prop) (ds : List D) : Prop where
 shape : ∀ i S h, St i S h → ∀ b ∈ wr, ∃ o, h.get? b = some o ∧ XJ o
 ext : ∀ i S h S' h', St i S h → Ext S h S' h' → St i S' h'
 item : ∀ i S (s : Shared) d (Q : Value → Shared → Prop) (E E' : Value → Shared → Prop), ds[i]? = some d → St i S s.heap →
  (∀ v h' tk, RV S h' v d → St (i + 1) S h' → KB wr s.heap h' → Q v { s with heap := h', toks := tk }) →
  wpAny G.M A (pyNext (.ref I)) (fun r s₁ => ∃ v, r = some v ∧ wpAny G.M A (letOwnedTupleGo tg (.ref I) v) (fun _ s₂ => Q v s₂) E' s₁) E s
 done : ∀ S (s : Shared) (Q : Option Value → Shared → Prop) (E : Value → Shared → Prop), St ds.length S s.heap → HOk A s.heap → (∀ v, A.handled = some v → ∀ b ∈ wr, v ≠ .ref b) →
  (∀ h' tk, KB wr s.heap h' → Q none { s with heap := h', toks := tk }) → wpAny G.M A (pyNext (.ref I)) Q E s
 self : ∀ i S (s : Shared) (Q : Value → Shared → Prop) (E : Value → Shared → Prop), St i S s.heap → Q (.ref I) s → wpAny G.M A (pyIter (.ref I)) Q E s
noncomputable def Dz (G : Gd) (cx : Cx) (sc : Scope) (tg : Expr) (S : Addr → Prop) (s : Shared) (Q : Value → Shared → Prop) (E : Value → Shared → Prop) : Res (List D) → Prop
 | .ok ds ρ' => ∀ (I : Addr) (wr : List Addr) (St : Nat → (Addr → Prop) → Heap → Prop) (S' : Addr → Prop) (h' : Heap) (tk : Nat), Rel G cx sc ρ' S' h' → ItK G cx.A tg I wr St ds → St 0 S' h' → (∀ b ∈ wr, s.heap.get? b = none) → Ext S s.heap S' h' → Qq cx.env s.heap h' → Q (.ref I) { s with heap := h', toks := tk }
 | .exc C ρ' => ∀ e h' tk S', Rel G cx sc ρ' S' h' → Fly s.heap h' e C → Ext S s.heap S' h' → E (.ref e) { s with heap := h', toks := tk }
 | .stuck => False
noncomputable def KF (G : Gd) (k : Nat) (sc : Scope) (tg e : Expr) (f : AEnv → Res (List D)) : Prop :=
 ∀ cx, CxOk G cx sc k → ∀ ρ S s, Rel G cx sc ρ S s.heap → ∀ Q E, Dz G cx sc tg S s Q E (f ρ) → wpAny G.M cx.A (eval e cx.env) (fun xv s₁ => wpAny G.M cx.A (pyIter xv) Q E s₁) E s
theorem Dz.stepS {G : Gd} {cx : Cx} {sc : Scope} {tg : Expr} {same₁ : Bool} {S S₁ : Addr → Prop} {s : Shared} {h₁ : Heap} {t₁ : Nat} {Q Q₁ : Value → Shared → Prop} {E : Value → Shared → Prop} {r : Res T} {g : T → AEnv → Res (List D)} (out : Dz G cx sc tg S s Q E (r.bind g)) (x : Ext S s.heap S₁ h₁)
  (H : ∀ b ρ, Dz G cx sc tg S s Q E (g b ρ) → ∀ a h' tk S', Rel G cx sc ρ S' h' → RV S' h' a b.val → Ext S₁ h₁ S' h' → (same₁ = true → Qq cx.env h₁ h') → Q₁ a { s with heap := h', toks := tk }) :
  Out G cx sc same₁ S₁ { s with heap := h₁, toks := t₁ } (fun S' h' v d => RV S' h' v d) Q₁ E (r.bind fun t ρ => .ok t.val ρ) := by
 cases r with
 | stuck => exact out
 | exc C ρ => exact fun e h' tk S' r' f' x' => out e h' tk S' r' (f'.back x) (x.trans x')
 | ok b ρ => exact H b ρ out
theorem KB.of_sameBut {a : Addr} {h h' : Heap} (k : Heap.SameBut a h h') (e : ∃ o, h'.get? a = some o) : KB [a] h h' := ⟨fun b o hb eb => (k.2 b (by simpa using hb)).trans eb, fun b hb => by rw [List.mem_singleton.mp hb]; exact e⟩
set_option tactic.hygienic true in
theorem YU {prog : Program} {w : World} {A : Around} {E : Value → Shared → Prop} {s : Shared} {tg : Expr} {I : Addr} {o : Obj} {T : String} {vs : Array Value} {v : Value} {Q : Unit → Shared → Prop} (ho : s.heap.get? I = some o) (hc : o.cls = .type T) (hd : o.data = .fields vs)
  (hT : ["enumerate", "zip", "dict_itemiterator", "dict_reverseitemiterator", "odict_iterator", "itertools.zip_longest", "itertools.pairwise"].contains T = false) (h : Q () s) : wpAny (model prog w) A (letOwnedTupleGo tg (.ref I) v) Q E s := by
 obtain ⟨c, d, dt, sl⟩ := o
 cases hc
 cases hd
 have hf : ∀ a, (["enumerate", "zip", "dict_itemiterator", "dict_reverseitemiterator", "odict_iterator", "itertools.zip_longest", "itertools.pairwise"].contains T && vs[0]? == some (rawInt a)) = false := fun a => by rw [hT]; rfl
 cases tg <;> first | exact wpAny_pure h | skip
 all_goals
  cases v <;> first | exact wpAny_pure h | skip
  rename_i a
  refine wpAny_bind (m := load I) (wpAny_load ho ?_)
  show wpAny _ _ (if (["enumerate", "zip", "dict_itemiterator", "dict_reverseitemiterator", "odict_iterator", "itertools.zip_longest", "itertools.pairwise"].contains T && vs[0]? == some (rawInt a)) = true then _ else _) Q E s
  rw [if_neg (by rw [hf]; decide)]
  exact wpAny_pure h
section
variable {G : Gd} {A : Around} {tg : Expr}
noncomputable def U9 (T : String) (It : String) (I l : Addr) (ds : List D) (i : Nat) (S : Addr → Prop) (h : Heap) : Prop :=
 (∃ o, h.get? I = some o ∧ o.cls = .type It ∧ o.data = .fields #[.ref l, .int i 0]) ∧ ∃ o vs n, h.get? l = some o ∧ o.cls = .type T ∧ o.data = .seq vs n ∧ RVs S h vs.toList ds ∧ (T = "list" → S l)
theorem U9.ext {T It : String} {I l : Addr} {ds : List D} (hT : T = "list" ∨ T = "tuple") : ∀ i S h S' h', U9 T It I l ds i S h → Ext S h S' h' → U9 T It I l ds i S' h' := by
 rintro i S h S' h' ⟨⟨o, a1, a2, a3⟩, ol, vs, n, b1, b2, b3, b4, b5⟩ x
 refine ⟨⟨o, x.exact a1 (.inr (.inr ⟨_, a3⟩)) (.fields a3), a2, a3⟩, ol, vs, n, x.exact b1 ?_ (.seq b3), b2, b3, b4.ext x, fun q => x.sub _ (b5 q)⟩
 rcases hT with rfl | rfl
 ·exact .inl (b5 rfl)
 ·exact .inr (.inl ⟨b2, _, _, b3⟩)
theorem FW {I l : Addr} (hne : l ≠ I) (ds : List D) : ItK G A tg I [I] (U9 "list" "list_iterator" I l ds) ds where
 shape := fun i S h st b hb => by
  obtain ⟨⟨o, a1, a2, a3⟩, _⟩ := st
  exact ⟨o, by rw [List.mem_singleton.mp hb]; exact a1, _, _, a2, by decide, by decide, by decide, a3⟩
 ext := U9.ext (.inl rfl)
 item := fun i S s d Q E E' hd st hQ => by
  obtain ⟨⟨o, a1, a2, a3⟩, ol, vs, n, b1, b2, b3, b4, b5⟩ := st
  obtain ⟨v, hv, rv⟩ := b4.get hd
  refine wpAny_pyNext_list_item ⟨o, a1, a2, a3⟩ ⟨ol, b1, b2, n, b3⟩ (by simpa using hv) fun h' it' k' => ⟨v, rfl, ?_⟩
  have it0 := it'
  obtain ⟨o', c1, c2, c3⟩ := it0
  have kb := KB.of_sameBut k' ⟨o', c1⟩
  have sh : ∀ b ∈ [I], ∃ o, s.heap.get? b = some o ∧ XJ o := fun b hb => ⟨o, by rw [List.mem_singleton.mp hb]; exact a1, _, _, a2, by decide, by decide, by decide, a3⟩
  exact YU (s := { s with heap := h' }) c1 c2 c3 (by decide) (hQ v h' s.toks (rv.aside sh kb) ⟨⟨o', c1, c2, c3⟩, ol, vs, n, (k'.2 l hne).trans b1, b2, b3, b4.aside sh kb, b5⟩ kb)
 done := fun S s Q E st hh hni hQ => by
  obtain ⟨⟨o, a1, a2, a3⟩, ol, vs, n, b1, b2, b3, b4, b5⟩ := st
  exact Jf hh a1 a2 a3 b1 b3 (by have := b4.length; simp at this; simp [this]) (fun v e => hni v e I (.head _)) fun h' k => hQ h' s.toks k
 self := fun i S s Q E st hQ => by
  obtain ⟨⟨o, a1, a2, a3⟩, _⟩ := st
  exact wpAny_pyIter_listiter ⟨o, a1, a2, a3⟩ hQ
theorem Eg {I l : Addr} (hne : l ≠ I) (ds : List D) : ItK G A tg I [I] (U9 "tuple" "tuple_iterator" I l ds) ds where
 shape := fun i S h st b hb => by
  obtain ⟨⟨o, a1, a2, a3⟩, _⟩ := st
  exact ⟨o, by rw [List.mem_singleton.mp hb]; exact a1, _, _, a2, by decide, by decide, by decide, a3⟩
 ext := U9.ext (.inr rfl)
 item := fun i S s d Q E E' hd st hQ => by
  obtain ⟨⟨o, a1, a2, a3⟩, ol, vs, n, b1, b2, b3, b4, b5⟩ := st
  obtain ⟨v, hv, rv⟩ := b4.get hd
  refine next_tuple_item ⟨o, a1, a2, a3⟩ ⟨ol, b1, b2, n, b3⟩ (by simpa using hv) fun h' it' k' => ⟨v, rfl, ?_⟩
  have it0 := it'
  obtain ⟨o', c1, c2, c3⟩ := it0
  have kb := KB.of_sameBut k' ⟨o', c1⟩
  have sh : ∀ b ∈ [I], ∃ o, s.heap.get? b = some o ∧ XJ o := fun b hb => ⟨o, by rw [List.mem_singleton.mp hb]; exact a1, _, _, a2, by decide, by decide, by decide, a3⟩
  exact YU (s := { s with heap := h' }) c1 c2 c3 (by decide) (hQ v h' s.toks (rv.aside sh kb) ⟨⟨o', c1, c2, c3⟩, ol, vs, n, (k'.2 l hne).trans b1, b2, b3, b4.aside sh kb, b5⟩ kb)
 done := fun S s Q E st hh hni hQ => by
  obtain ⟨⟨o, a1, a2, a3⟩, ol, vs, n, b1, b2, b3, b4, b5⟩ := st
  exact Y1 hh a1 a2 a3 b1 b3 (by have := b4.length; simp at this; simp [this]) (fun v e => hni v e I (.head _)) fun h' k => hQ h' s.toks k
 self := fun i S s Q E st hQ => by
  obtain ⟨⟨o, a1, a2, a3⟩, _⟩ := st
  exact wpAny_pyIter_tupleiter ⟨o, a1, a2, a3⟩ hQ
noncomputable def VT (I : Addr) (lo st : Int) (n : Nat) (i : Nat) (_ : Addr → Prop) (h : Heap) : Prop := IsRangeIter h I (lo + i * st) ((n : Int) - i) st
theorem Ea {I : Addr} (lo st : Int) (n : Nat) : ItK G A tg I [I] (VT I lo st n) ((List.range n).map fun (i : Nat) => D.int (lo + i * st)) where
 shape := fun i S h q b hb => by cases List.mem_singleton.mp hb; exact ⟨_, q, _, _, rfl, by decide, by decide, by decide, rfl⟩
 ext := fun i S h S' h' q x => x.exact q (.inr (.inr ⟨_, rfl⟩)) (.fields rfl)
 item := fun i S s d Q E E' hd q hQ => by
  have hi : i < n := by
   have := (List.getElem?_eq_some_iff.mp hd).1
   simpa using this
  have hdd : d = .int (lo + i * st) := by simp [hi] at hd; exact hd.symm
  subst hdd
  refine wpAny_pyNext_range_item q (by (simpa using hi)) fun h' it' k' => ⟨_, rfl, ?_⟩
  have q' : VT I lo st n (i + 1) S h' := by
   unfold VT
   have e1 : lo + (i : Int) * st + st = lo + ((i + 1 : Nat) : Int) * st := by rw [Int.natCast_add, Int.add_mul]; simp; simp +arith
   have e2 : (n : Int) - i - 1 = (n : Int) - ((i + 1 : Nat) : Int) := by simp +arith
   rw [← e1, ← e2]; exact it'
  exact YU (s := { s with heap := h', toks := s.toks + 1 }) it' rfl rfl (by decide) (hQ _ h' _ (.int _ _) q' (KB.of_sameBut k' ⟨_, it'⟩))
 done := fun S s Q E q hh hni hQ => by
  have q : IsRangeIter s.heap I _ _ _ := q
  exact K1 hh q (by simp) fun h' k => hQ h' s.toks k
 self := fun i S s Q E q hQ => wpAny_pyIter_rangeiter q hQ
end
noncomputable def Zb : D → Option (List D)
 | .list ds => some ds
 | .tup ds => some ds
 | .range lo hi st => if Zt lo hi st then some (Un lo hi st) else none
 | _ => none
noncomputable def Q4 (f : AEnv → Res T) : AEnv → Res (List D) := fun ρ => (f ρ).bind fun t ρ₁ => match Zb t.val with
 | some ds => .ok ds ρ₁
 | none => .stuck
set_option tactic.hygienic true in
theorem Xp {G : Gd} {k : Nat} {sc : Scope} {tg e : Expr} {f : AEnv → Res T} (h : Sim G k sc e f) : KF G k sc tg e (Q4 f) := by
 intro cx ok ρ S s r Q E out
 refine (h cx ok ρ S s r).shared _ _ ?_
 refine Dz.stepS (s := s) (tg := tg) out (Ext.refl ..) fun t ρ₁ out v h₁ t₁ S₁ r₁ j₁ x₁ v₁ => ?_
 have nw : ∀ b ∈ [h₁.objs.size], s.heap.get? b = none := fun b hb => by
  rw [List.mem_singleton.mp hb]
  exact x₁.none (Heap.get?_none_of_le (Nat.le_refl _))
 cases hd : Zb t.val with
 | none => rw [hd] at out; exact out.elim
 | some ds =>
  rw [hd] at out
  simp only at out
  unfold Zb at hd
  split at hd
  ·rename_i ds' e
   cases hd
   rw [e] at j₁
   cases j₁ with
   | list hs e1 e2 e3 q =>
    rename_i a o vs n
    refine wpAny_pyIter_list (s := { s with heap := h₁, toks := t₁ }) ⟨o, e1, e2.1, n, e3⟩ ?_
    have hne : a ≠ h₁.objs.size := fun e => by rw [e, Heap.get?_none_of_le (Nat.le_refl _)] at e1; cases e1
    exact out _ [h₁.objs.size] _ S₁ _ t₁ (Rel.push (s := { s with heap := h₁ }) r₁ _) (FW hne ds) ⟨⟨_, Heap.get?_push_size _ rfl, rfl, rfl⟩, o, vs, n, Heap.get?_push_of_some _ e1, e2.1, e3, q.ext (QN _), fun _ => hs⟩ nw (x₁.trans (QN _)) ((v₁ rfl).trans (r₁.same (Xi _)))
  ·rename_i ds' e
   cases hd
   rw [e] at j₁
   cases j₁ with
   | tup e1 e2 e3 q =>
    rename_i a o vs n
    refine iter_tuple (s := { s with heap := h₁, toks := t₁ }) ⟨o, e1, e2, n, e3⟩ ?_
    have hne : a ≠ h₁.objs.size := fun e => by rw [e, Heap.get?_none_of_le (Nat.le_refl _)] at e1; cases e1
    exact out _ [h₁.objs.size] _ S₁ _ t₁ (Rel.push (s := { s with heap := h₁ }) r₁ _) (Eg hne ds) ⟨⟨_, Heap.get?_push_size _ rfl, rfl, rfl⟩, o, vs, n, Heap.get?_push_of_some _ e1, e2, e3, q.ext (QN _), fun q => absurd q (by decide)⟩ nw (x₁.trans (QN _)) ((v₁ rfl).trans (r₁.same (Xi _)))
  ·rename_i lo hi st e
   rw [e] at j₁
   split at hd
   ·rename_i hf
    cases hd
    obtain ⟨f1, f2, f3⟩ := Ww hf
    cases j₁ with
    | range hr =>
     refine wpAny_pyIter_range (s := { s with heap := h₁, toks := t₁ }) hr f1 ?_
     refine out _ [h₁.objs.size] _ S₁ _ t₁ (Rel.push (s := { s with heap := h₁ }) r₁ _) (Ea lo st (W2 lo hi st)) ?_ nw (x₁.trans (QN _)) ((v₁ rfl).trans (r₁.same (Xi _)))
     show IsRangeIter _ _ _ _ _
     rw [f2]
     simpa using Heap.get?_push_size _ rfl
   ·cases hd
  ·cases hd
noncomputable def WC (cx : Cx) (sc : Scope) (x : Str) : Prop := sc.names.lookup x = some .local ∨ (sc.names.lookup x = some .cell ∧ ∃ c, cx.env.cells.lookup x = some c ∧ cx.h₀.get? c = none)
noncomputable def KA (G : Gd) (sc : Scope) (tg : Expr) (xs : List Str) (b : D → AEnv → Option AEnv) : Prop :=
 ∀ cx k, CxOk G cx sc k → FnCx G cx → (∀ x ∈ xs, WC cx sc x) → ∀ ρ S s v d ρ', Rel G cx sc ρ S s.heap → RV S s.heap v d → b d ρ = some ρ' → Qk G cx sc false (assign tg cx.env v) S s (fun _ _ _ (_ : Unit) => True) (.ok () ρ')
noncomputable def QG (i : Nat) : D → AEnv → Option AEnv := fun d ρ => some (ρ.set i (some (.sh d)))
theorem Vu {G : Gd} {sc : Scope} {x : Str} {p : Pos} {i : Nat} (hx : (Qf sc)[i]? = some x) : KA G sc (.Name x p) [x] (QG i) := by
 intro cx k ok fn hn ρ S s v d ρ' r q e
 cases e
 rw [PySem.assign_Name]
 exact Qk.standAt ((K5 (ok.mono (Nat.zero_le _)) fn r hx (hn x (.head _)) (.inr ⟨d, rfl⟩) (t := .sh d) q).wp fun Q E h => wpAny_bindName h)
noncomputable def Wg : List Nat → List D → AEnv → Option AEnv
 | [], [], ρ => some ρ
 | i :: is, d :: ds, ρ => Wg is ds (ρ.set i (some (.sh d)))
 | _, _, _ => none
noncomputable def Xg (is : List Nat) : D → AEnv → Option AEnv
 | .tup ds, ρ => if ds.length = is.length then Wg is ds ρ else none
 | _, _ => none
inductive Names (sc : Scope) : List Expr → List Str → List Nat → Prop
 | nil : Names sc [] [] []
 | cons {x : Str} {p : Pos} {i : Nat} {es : List Expr} {xs : List Str} {is : List Nat} : (Qf sc)[i]? = some x → Names sc es xs is → Names sc (.Name x p :: es) (x :: xs) (i :: is)
theorem Names.each {sc : Scope} {es : List Expr} {xs : List Str} {is : List Nat} (h : Names sc es xs is) (env : Env) : (assignEach es env).length = is.length ∧ (assignEach es env).findIdx? (·.1) = none := by
 induction h with
 | nil => exact ⟨rfl, rfl⟩
 | cons _ _ ih =>
  obtain ⟨l, f⟩ := ih
  refine ⟨congrArg (· + 1) l, ?_⟩
  show List.findIdx? (·.1) ((false, _) :: assignEach _ env) = none
  rw [List.findIdx?_cons, f]; rfl
theorem Bb {G : Gd} {sc : Scope} {cx : Cx} {k : Nat} (ok : CxOk G cx sc k) (fn : FnCx G cx) {es : List Expr} {xs : List Str} {is : List Nat} (h : Names sc es xs is) : (∀ x ∈ xs, WC cx sc x) → ∀ {vs : List Value} {ds : List D} {ρ ρ' : AEnv} {S : Addr → Prop} {s : Shared}, Rel G cx sc ρ S s.heap → RVs S s.heap vs ds → Wg is ds ρ = some ρ' →
  Qk G cx sc false (assignInOrder ((assignEach es cx.env).map (·.2)) vs) S s (fun _ _ _ (_ : Unit) => True) (.ok () ρ') := by
 induction h with
 | nil =>
  intro _ vs ds ρ ρ' S s r q e
  cases q with
  | nil => cases e; exact Qk.pure r trivial
  | cons _ _ => cases e
 | cons hx _ ih =>
  intro hn vs ds ρ ρ' S s r q e
  cases q with
  | nil => cases e
  | cons q1 q2 =>
   intro Q E out
   refine assignInOrder_cons (Vu hx cx k ok fn (fun y hy => by rw [List.mem_singleton.mp hy]; exact hn _ (.head _)) ρ S s _ _ _ r q1 rfl _ _ ?_)
   intro _ h₁ t₁ S₁ r₁ _ x₁ _
   refine ih (fun y hy => hn y (.tail _ hy)) (s := { s with heap := h₁, toks := t₁ }) r₁ (q2.ext x₁) e _ _ ?_
   intro _ h₂ t₂ S₂ r₂ _ x₂ _
   exact out () h₂ t₂ S₂ r₂ trivial (x₁.trans x₂) fun z => by cases z
section
variable {prog : Program} {w : World} {A : Around} {E : Value → Shared → Prop} {s : Shared}
theorem Uc {t : Addr} {items : Array Value} {Q : List Value → Shared → Prop} (hh : HOk A s.heap) (ht : IsTup s.heap t items)
  (hQ : ∀ h', (∀ b o, s.heap.get? b = some o → h'.get? b = some o) → Q items.toList { s with heap := h' }) : wpAny (model prog w) A (unpackItems (.ref t) items.size none) Q E s := by
 have hlt : t ≠ s.heap.objs.size := by obtain ⟨o, ho, _⟩ := ht; exact Nat.ne_of_lt (Heap.lt_size ho)
 unfold unpackItems
 refine wpAny_bind ?_
 ·unfold notIterableAtAll
  refine wpAny_bind (wpAny_specialOf ht.typeIs slot_tuple_iter.lookup ?_)
  refine wpAny_pure ?_
  simp only [Bool.false_eq_true, if_false]
  refine wpAny_bind (wpAny_holding (iter_tuple ht ?_))
  refine wpAny_bind (wpAny_holding (draw_tuple hlt items.size 0 _ _ ⟨_, Heap.get?_push_size _ rfl, rfl, rfl⟩ (ht.push _) (by simp +arith) fun h₁ hit₁ hs₁ => ?_))
  have hall : List.take items.size (List.drop 0 items.toList) = items.toList := by
   rw [List.drop_zero]; exact List.take_of_length_le (by simp)
  rw [hall]
  rw [if_neg (by simp)]
  have ht₁ : IsTup h₁ t items := (ht.push _).extBut hs₁.extBut hlt
  obtain ⟨oi, i1, i2, i3⟩ := hit₁
  obtain ⟨ot, t1, t2, nt, t3⟩ := ht₁
  have keep : ∀ b o, s.heap.get? b = some o → h₁.get? b = some o := fun b o e => hs₁.extBut b o (Nat.ne_of_lt (Heap.lt_size e)) (Heap.get?_push_of_some _ e)
  refine wpAny_bind (wpAny_holding (Y1 (s := { s with heap := h₁ }) (hh.keeps fun b o vs e hd h2 => ⟨o, vs, keep b o e, hd, h2⟩) i1 i2 i3 t1 t3 (by simp) (fun v hv => ?_) fun h₂ k₂ => ?_))
  ·obtain ⟨a, o, vs, rfl, h1, _⟩ := hh v hv
   intro q
   cases q
   exact absurd (Heap.lt_size h1) (Nat.lt_irrefl _)
  simp only [Option.isSome_none, Bool.false_eq_true, if_false]
  refine wpAny_pure (hQ h₂ fun b o e => k₂.1 b o (by simp; exact Nat.ne_of_lt (Heap.lt_size e)) (keep b o e))
end
set_option tactic.hygienic true in
theorem Dq {G : Gd} {sc : Scope} {es : List Expr} {xs : List Str} {is : List Nat} {n : Nat} {p : Pos} (h : Names sc es xs is) : KA G sc (.Tuple es n p) xs (Xg is) := by
 intro cx k ok fn hn ρ S s v d ρ' r q e
 unfold Xg at e
 split at e
 ·rename_i ds
  split at e
  ·rename_i hl
   cases q with
   | tup e1 e2 e3 q =>
    rename_i a o vs m
    rw [assign_Tuple]
    refine Qk.standAt ?_
    intro Q E out
    unfold unpack
    obtain ⟨l, f⟩ := h.each cx.env
    have hsz : vs.size = ds.length := by rw [← q.length]; simp
    rw [l, f, ← hl, ← hsz]
    refine wpAny_bind (wpAny_holding (Uc r.hOk ⟨o, e1, e2, m, e3⟩ fun h' hk => ?_))
    obtain ⟨r', x', v'⟩ := r.keepsE hk
    refine Bb ok fn h hn (s := { s with heap := h' }) r' (q.ext x') e _ _ ?_
    intro _ h₂ t₂ S₂ r₂ _ x₂ _
    exact out () h₂ t₂ S₂ r₂ trivial (x'.trans x₂) fun z => by cases z
  ·cases e
 ·cases e
noncomputable def XF (b : D → AEnv → Option AEnv) (body : AEnv → Res Fl) : List D → AEnv → Res Fl
 | [], ρ => .ok .next ρ
 | d :: ds, ρ => match b d ρ with
  | none => .stuck
  | some ρ₁ => (body ρ₁).bind fun fl ρ₂ => match fl with
   | .next => XF b body ds ρ₂
   | .cont => XF b body ds ρ₂
   | .brk => .ok .next ρ₂
   | .ret t => .ok (.ret t) ρ₂
noncomputable def ZI (src : AEnv → Res (List D)) (b : D → AEnv → Option AEnv) (body : AEnv → Res Fl) : AEnv → Res Fl := fun ρ => (src ρ).bind fun ds ρ₁ => XF b body ds ρ₁
theorem J9 {α : Type} {l : List α} {i : Nat} {d : α} (h : l[i]? = some d) : l.drop i = d :: l.drop (i + 1) := by
 obtain ⟨h1, rfl⟩ := List.getElem?_eq_some_iff.mp h
 exact List.drop_eq_getElem_cons h1
theorem C9 {A : Around} {h : Heap} (hh : HOk A h) {wr : List Addr} (new : ∀ b ∈ wr, h.get? b = none) : ∀ v, A.handled = some v → ∀ b ∈ wr, v ≠ .ref b := fun v hv b hb q => by
 obtain ⟨a, o, vs, rfl, h1, _⟩ := hh v hv
 cases q
 rw [new _ hb] at h1; cases h1
section
variable {G : Gd} {k : Nat} {sc : Scope}
inductive FInv (G : Gd) (cx : Cx) (sc : Scope) (S : Addr → Prop) (St : Nat → (Addr → Prop) → Heap → Prop) (P : Res Fl → Prop) (fo : List D → AEnv → Res Fl) (ds : List D) (s : Shared) : Nat → Shared → Prop
 | mk {i : Nat} {ρ' : AEnv} {S' : Addr → Prop} {h' : Heap} {tk : Nat} : i ≤ ds.length → Rel G cx sc ρ' S' h' → St i S' h' → Ext S s.heap S' h' → P (fo (ds.drop i) ρ') → FInv G cx sc S St P fo ds s (ds.length + 1 - i) { s with heap := h', toks := tk }
set_option tactic.hygienic true in
theorem Fx {tg iter : Expr} {body : List Stmt} {pos : Pos} {src : AEnv → Res (List D)} {xs : List Str} {b : D → AEnv → Option AEnv} {f : AEnv → Res Fl} (hi : KF G k sc tg iter src) (ht : KA G sc tg xs b) (hxs : ∀ x ∈ xs, sc.names.lookup x = some .local ∨ sc.names.lookup x = some .cell) (hb : Wa G k sc body f)
  (hs : ∀ env x, foldedSetIterable iter env x = pure x) : YY G k sc (.For tg iter body [] pos) (ZI src b f) := by
 intro cx ok fn ρ S s r Q E out
 refine wpAny_For ?_ (hs cx.env)
 refine hi cx ok ρ S s r _ _ ?_
 unfold ZI at out
 cases hsrc : src ρ with
 | stuck => rw [hsrc] at out; exact out.elim
 | exc C ρ₁ => rw [hsrc] at out; exact out
 | ok ds ρ₁ =>
  rw [hsrc] at out
  simp only [Res.bind] at out
  intro I wr St S₁ h₁ t₁ r₁ it st₁ nw x₁ v₁
  have hn : ∀ x ∈ xs, WC cx sc x := fun x hx => (hxs x hx).imp id fun q => ⟨q, fn.has x (by unfold Env.kindOf; rw [ok.hsc]; exact q)⟩
  have new : ∀ b ∈ wr, cx.h₀.get? b = none ∧ G.B.get? b = none := fun b hb => ⟨r.keep.none (nw b hb), by
   cases q : G.B.get? b with
   | none => rfl
   | some o => have := r.base b o q; rw [nw b hb] at this; cases this⟩
  have err : ∀ C ρ', Out G cx sc false S s (fun S' h' a b => FlJ cx S' h' a b) Q E (.exc C ρ') → ∀ e h' tk S', Rel G cx sc ρ' S' h' → Fly s.heap h' e C → Ext S s.heap S' h' → notedBy G.M cx.A cx.env (fun e s' => cameBackBy G.M cx.A cx.env E e s') (.ref e) { s with heap := h', toks := tk } := fun C ρ' o e h' tk S' r' f' x' => B6 ok r o r' f' x'
  obtain ⟨Inv, hI, hC⟩ : ∃ Inv : Nat → Shared → Prop, (∀ m s', FInv G cx sc S St (Out G cx sc false S s (fun S' h' a b => FlJ cx S' h' a b) Q E) (XF b f) ds s m s' → Inv m s') ∧ ∀ m s', Inv m s' → FInv G cx sc S St (Out G cx sc false S s (fun S' h' a b => FlJ cx S' h' a b) Q E) (XF b f) ds s m s' := ⟨_, fun _ _ q => q, fun _ _ q => q⟩
  refine codeAny_forLoop_any Inv ?_ (ds.length + 1) (hI _ _ (.mk (i := 0) (tk := t₁) (Nat.zero_le _) r₁ st₁ x₁ (by rw [List.drop_zero]; exact out)))
  generalize (notedBy G.M cx.A cx.env fun e s' => cameBackBy G.M cx.A cx.env E e s') = EN at err ⊢
  intro m s' hinv
  cases hC m s' hinv with
  | mk hi' r' st' x' out' =>
  rename_i i ρ' S' h' tk
  by_cases hlt : i < ds.length
  ·have hd : ds[i]? = some ds[i] := List.getElem?_eq_getElem hlt
   rw [J9 hd] at out'
   rw [XF] at out'
   cases hbd : b ds[i] ρ' with
   | none => rw [hbd] at out'; exact out'.elim
   | some ρ₂ =>
    rw [hbd] at out'
    simp only at out'
    refine wpAny_mono (it.item i S' { s with heap := h', toks := tk } ds[i] _ _ EN hd st' fun v h₂ t₂ rv st₂ kb => (?_ : (fun v s₂ => wpAny G.M cx.A (assign tg cx.env v) (fun _ s₂ => wpAny G.M cx.A (execs body cx.env) (fun f s₃ => match f with
      | .next | .cont => ∃ m', m' < ds.length + 1 - i ∧ Inv m' s₃
      | .brk => Q .next s₃
      | .ret v => Q (.ret v) s₃) EN s₂) EN s₂) v _)) (fun rr s₁ h₁ => by
       obtain ⟨v, rfl, h₁⟩ := h₁
       exact h₁) fun _ _ e => e
    obtain ⟨r₂, v₂⟩ := r'.aside (it.shape i S' h' st') new kb
    have x₂ := x'.aside nw kb
    refine ht cx k ok fn.toFnCx hn ρ' S' { s with heap := h₂, toks := t₂ } v ds[i] ρ₂ r₂ rv hbd _ _ ?_
    intro _ h₃ t₃ S₃ r₃ _ x₃ _
    have st₃ := it.ext _ _ _ _ _ st₂ x₃
    refine hb cx ok fn ρ₂ S₃ { s with heap := h₃, toks := t₃ } r₃ _ _ (Out.stepE (s := s) out' (x₂.trans x₃) err fun fl ρ₃ out' a h₄ t₄ S₄ r₄ j₄ x₄ _ => ?_)
    have st₄ := it.ext _ _ _ _ _ st₃ x₄
    have xx := (x₂.trans x₃).trans x₄
    cases a <;> cases fl <;> first
     | exact j₄.elim
     | exact ⟨ds.length + 1 - (i + 1), by omega, hI _ _ (.mk (i := i + 1) (tk := t₄) hlt r₄ st₄ xx out')⟩
     | exact out' _ h₄ t₄ S₄ r₄ j₄ xx fun q => by cases q
  ·have hie : i = ds.length := by exact Nat.le_antisymm hi' (Nat.le_of_not_lt hlt)
   subst hie
   rw [List.drop_length] at out'
   refine it.done S' { s with heap := h', toks := tk } _ _ st' r'.hOk (C9 r.hOk nw) fun h₂ t₂ kb => ?_
   obtain ⟨r₂, v₂⟩ := r'.aside (it.shape _ S' h' st') new kb
   exact wpAny_execs_nil (out' .next h₂ t₂ S' r₂ trivial (x'.aside nw kb) fun q => by cases q)
end
section
variable {prog : Program} {w : World} {A : Around} {E : Value → Shared → Prop} {s : Shared}
theorem WM {it l : Addr} {i : Nat} {items} {x : Value} {Q : Value → Shared → Prop} (hit : IsTupIter s.heap it l i) (hl : IsTup s.heap l items) (hx : items[i]? = some x)
  (hQ : ∀ h', IsTupIter h' it l (i + 1) → Heap.SameBut it s.heap h' → Q x { s with heap := h' }) : wpAny (model prog w) A (Builtin.SmallTypes.nextOf (.ref it)) Q E s := by
 obtain ⟨o, ho, hc, hd⟩ := id hit
 obtain ⟨ol, hol, _, nl, hdl⟩ := hl
 unfold Builtin.SmallTypes.nextOf
 refine wpAny_bind (wpAny_callSpecial?_slot (name := Str.ofString "__next__") hit.typeIs slot_tupleiter_next
  (wpAny_call_entry slot_tupleiter_next hit.typeIs entry_tupleiter_next ?_ (args_tupleiter_next _)))
 show wpAny _ _ (field (.ref it) 0 >>= _) _ _ s
 refine wpAny_bind (wpAny_field ho hd (x := .ref l) rfl ?_)
 show wpAny _ _ (if (Value.ref l == Value.none) = true then _ else _) _ _ s
 rw [if_neg (show ¬ ((Value.ref l == Value.none) = true) from Bool.false_ne_true)]
 show wpAny _ _ (field (.ref it) 1 >>= _) _ _ s
 refine wpAny_bind (wpAny_field ho hd (x := .int i 0) rfl ?_)
 show wpAny _ _ (seqItems? (.ref l) >>= _) _ _ s
 refine wpAny_bind (wpAny_seqItems hol hdl ?_)
 simp only [Int.toNat_natCast, hx]
 refine wpAny_bind (wpAny_setField ho hd (by simp) (wpAny_pure ⟨x, rfl, wpAny_pure (hQ _ ?_ (Heap.SameBut.update ..))⟩))
 exact ⟨_, Heap.get?_update_self _ ho (Obj.isFreed_of_fields (Obj.data_mapFields hd _)), (Obj.cls_mapFields ..).trans hc, by
  rw [Obj.data_mapFields hd]; simp [rawInt]⟩
theorem JJ {it l : Addr} {i : Nat} {items} {Q : Value → Shared → Prop} (hh : HOk A s.heap) (hni : ∀ v, A.handled = some v → v ≠ .ref it) (hit : IsTupIter s.heap it l i) (hl : IsTup s.heap l items) (hx : items[i]? = none)
  (hE : ∀ h' e, KB [it] s.heap h' → (∃ o, h'.get? e = some o ∧ o.cls = .type "StopIteration") → E (.ref e) { s with heap := h' }) : wpAny (model prog w) A (Builtin.SmallTypes.nextOf (.ref it)) Q E s := by
 obtain ⟨o, ho, hc, hd⟩ := id hit
 obtain ⟨ol, hol, _, nl, hdl⟩ := hl
 unfold Builtin.SmallTypes.nextOf
 refine wpAny_bind (wpAny_callSpecial?_slot (name := Str.ofString "__next__") hit.typeIs slot_tupleiter_next
  (wpAny_call_entry slot_tupleiter_next hit.typeIs entry_tupleiter_next ?_ (args_tupleiter_next _)))
 exact YO (A := A.in1) hh ho hd hol hdl hx hni hE
theorem KG {it l : Addr} {i : Nat} {items} {Q : Value → Shared → Prop} (hh : HOk A s.heap) (hni : ∀ v, A.handled = some v → v ≠ .ref it) (hit : s.heap.IsListIter it l i) (hl : s.heap.IsList l items) (hx : items[i]? = none)
  (hE : ∀ h' e, KB [it] s.heap h' → (∃ o, h'.get? e = some o ∧ o.cls = .type "StopIteration") → E (.ref e) { s with heap := h' }) : wpAny (model prog w) A (Builtin.SmallTypes.nextOf (.ref it)) Q E s := by
 obtain ⟨o, ho, hc, hd⟩ := id hit
 obtain ⟨ol, hol, _, nl, hdl⟩ := hl
 unfold Builtin.SmallTypes.nextOf
 refine wpAny_bind (wpAny_callSpecial?_slot (name := Str.ofString "__next__") hit.typeIs slot_listiter_next
  (wpAny_call_entry slot_listiter_next hit.typeIs entry_listiter_next ?_ (args_listiter_next _)))
 exact Jb (A := A.in1) hh ho hd hol hdl hx hni hE
end
theorem KB.ext {a : Addr} {h h' : Heap} (k : KB [a] h h') : Heap.ExtBut a h h' := fun b o hb e => k.1 b o (by simpa using hb) e
theorem BC {prog : Program} {w : World} {A : Around} (hh : A.handled = none) (it l : Addr) (hne : l ≠ it) (items : Array Value) :
  Draws prog w A it [it, l] items.size (fun i v => items[i]? = some v) (fun i h => IsTupIter h it l i ∧ IsTup h l items) where
 live := fun _ _ st => let ⟨o, ho, _⟩ := st.1; ⟨o, ho⟩
 frame := fun _ _ _ st hk => ⟨let ⟨o, ho, r⟩ := st.1; ⟨o, hk it (by simp) o ho, r⟩, let ⟨o, ho, r⟩ := st.2; ⟨o, hk l (by simp) o ho, r⟩⟩
 item := fun i s Q E hi st hQ => by
  refine WM st.1 st.2 (x := items[i]) (by simp [hi]) fun h' hit' hs' => ?_
  exact hQ _ h' s.toks (by simp [hi]) ⟨hit', st.2.extBut hs'.extBut hne⟩ hs'
 done := fun s Q E st hE => JJ (fun v e => by rw [hh] at e; cases e) (fun v e => by rw [hh] at e; cases e) st.1 st.2 (by simp) fun h' e k he => hE h' e k.ext he
open AutoSeq1 (wpAny_loadPart') in
set_option tactic.hygienic true in
theorem UC (l : Addr) (items : Array Value) (n : Nat) (dct : Option Addr) (sl : Array (Option Value)) :
  Meets (Builtin.«enumerate.__new__» ⟨[.type "enumerate", .ref l], []⟩) (fun _ R s => s.heap.get? l = some { cls := .type "tuple", dict := dct, data := .seq items n, slots := sl } ∧
   R (.ok (.ret (.ref (s.heap.push { cls := .type "tuple_iterator", data := .fields #[.ref l, .int 0 0] }).objs.size)))
    { s with heap := (s.heap.push { cls := .type "tuple_iterator", data := .fields #[.ref l, .int 0 0] }).push { cls := .type "enumerate", data := .fields #[.none, .bool false, .ref s.heap.objs.size, rawInt 0, .none, .none] } }) :=
 .of_wp fun prog w A R s h => by
  obtain ⟨hp, g, d, tk, os⟩ := s; obtain ⟨hl, h⟩ := h
  have hsub := sub_enumerate
  have hL : IsTup (Shared.heap ⟨hp, g, d, tk, os⟩) l items := ⟨_, hl, rfl, n, rfl⟩
  wp_walk using wpAny_loadPart' hl
  refine wpAny_stack_any fun st => wpAny_pure ?_
  split
  ·rename_i c _ _ _ _ _
   cases (c == Value.type "enumerate")
   ·wp_walk using wpAny_loadPart' hl, iter_tuple hL
    exact ⟨_, rfl, h⟩
   ·wp_walk using wpAny_loadPart' hl, iter_tuple hL
    exact ⟨_, rfl, h⟩
  ·wp_walk using wpAny_loadPart' hl, iter_tuple hL
   exact ⟨_, rfl, h⟩
theorem UB {prog : Program} {w : World} {A : Around} {E : Value → Shared → Prop} {s : Shared} {l : Addr} {items : Array Value} {Q : Value → Shared → Prop} (hL : IsTup s.heap l items)
  (h : ∀ h', IsEnum h' (s.heap.objs.size + 1) s.heap.objs.size 0 .none → IsTupIter h' s.heap.objs.size l 0 → (∀ b o, s.heap.get? b = some o → h'.get? b = some o) → Q (.ref (s.heap.objs.size + 1)) { s with heap := h' }) :
  wpAny (model prog w) A (call (.type "enumerate") [.ref l]) Q E s := by
 obtain ⟨⟨c, dct, dt, sl⟩, hl, hc, n, hd⟩ := hL
 replace hc : c = .type "tuple" := hc
 replace hd : dt = .seq items n := hd
 subst hc hd
 refine callType_new F.called_enumerate (by decide) (F.typeCall_enumerate_1 _) (F.newCall_enumerate_1 _) (fun obj => F.args_object_init_2 obj _) F.entry_enumerate_new
  (UC l items n dct sl) ⟨hl, ?_⟩
 have hz : (s.heap.push { cls := .type "tuple_iterator", data := .fields #[.ref l, .int 0 0] }).objs.size = s.heap.objs.size + 1 := Heap.size_push ..
 show _ ∧ _
 rw [hz]
 have he : IsEnum ((s.heap.push { cls := .type "tuple_iterator", data := .fields #[.ref l, .int 0 0] }).push
   { cls := .type "enumerate", data := .fields #[.none, .bool false, .ref s.heap.objs.size, rawInt 0, .none, .none] }) (s.heap.objs.size + 1) s.heap.objs.size 0 .none := by
  have := Heap.get?_push_size (s.heap.push { cls := .type "tuple_iterator", data := .fields #[.ref l, .int 0 0] })
   (o := { cls := .type "enumerate", data := .fields #[.none, .bool false, .ref s.heap.objs.size, rawInt 0, .none, .none] }) rfl
  rw [hz] at this; exact this
 exact ⟨⟨_, he, rfl⟩, h _ he ⟨_, Heap.get?_push_of_some _ (Heap.get?_push_size _ rfl), rfl, rfl⟩ fun b o x => Heap.get?_push_of_some _ (Heap.get?_push_of_some _ x)⟩
noncomputable def XW (ds : List D) : List D := ds.zipIdx.map fun x => .tup [.int x.2, x.1]
theorem Vg {ds : List D} {i : Nat} {d : D} (h : (XW ds)[i]? = some d) : ∃ e, ds[i]? = some e ∧ d = .tup [.int i, e] := by
 unfold XW at h
 rw [List.getElem?_map] at h
 obtain ⟨x, hx, rfl⟩ := Option.map_eq_some_iff.mp h
 rw [List.getElem?_zipIdx] at hx
 obtain ⟨e, he, rfl⟩ := Option.map_eq_some_iff.mp hx
 exact ⟨e, he, by simp⟩
noncomputable def Df (T It : String) (e it l : Addr) (ds : List D) (i : Nat) (S : Addr → Prop) (h : Heap) : Prop := (∃ old, IsEnum h e it i old) ∧ U9 T It it l ds i S h
section
variable {G : Gd} {A : Around} {es : List Expr} {n : Nat} {p : Pos}
theorem J6 {T It : String} {e it l : Addr} {ds : List D} (hIt : It ≠ "tuple" ∧ It ≠ "list" ∧ It ≠ "range") : ∀ i S h, Df T It e it l ds i S h → ∀ b ∈ [e, it], ∃ o, h.get? b = some o ∧ XJ o := by
 rintro i S h ⟨⟨old, he⟩, ⟨o, a1, a2, a3⟩, _⟩ b hb
 rcases List.mem_cons.mp hb with rfl | hb
 ·exact ⟨_, he, _, _, rfl, by decide, by decide, by decide, rfl⟩
 ·rw [List.mem_singleton.mp hb]
  exact ⟨o, a1, _, _, a2, hIt.1, hIt.2.1, hIt.2.2, a3⟩
theorem EG {e it l : Addr} (hh : A.handled = none) (hei : e ≠ it) (hle : l ≠ e) (hli : l ≠ it) (ds : List D) : ItK G A (.Tuple es n p) e [e, it] (Df "tuple" "tuple_iterator" e it l ds) (XW ds) where
 shape := J6 (by decide)
 ext := fun i S h S' h' st x => ⟨let ⟨old, he⟩ := st.1; ⟨old, x.exact he (.inr (.inr ⟨_, rfl⟩)) (.fields rfl)⟩, U9.ext (.inr rfl) i S h S' h' st.2 x⟩
 item := fun i S s d Q E E' hd st hQ => by
  obtain ⟨x, hx, rfl⟩ := Vg hd
  have sh := J6 (by decide) i S s.heap st
  obtain ⟨⟨old, he⟩, ⟨o, a1, a2, a3⟩, ol, vs, m, b1, b2, b3, b4, b5⟩ := st
  obtain ⟨v, hv, rv⟩ := b4.get hx
  have hi : i < vs.size := by
   have := (List.getElem?_eq_some_iff.mp hv).1
   simpa using this
  refine wpAny_pyNext_enum_itemD (BC (A := A.in1) hh it l hli vs) he ⟨⟨o, a1, a2, a3⟩, ol, b1, b2, m, b3⟩ hi hei (by simp; exact ⟨hei, Ne.symm hle⟩) fun y h' tk hP ho st' hT hsz hk => ?_
  have hy : y = v := by rw [show vs[i]? = some v by simpa using hv] at hP; cases hP; rfl
  subst hy
  refine ⟨_, rfl, wpAny_letOwnedTupleGo_enum (s := { s with heap := h', toks := tk + 1 }) ho fun h₂ he₂ hs₂ => ?_⟩
  have hlt : e < s.heap.objs.size := Heap.lt_size he
  have hlt' : it < s.heap.objs.size := Heap.lt_size a1
  obtain ⟨⟨o', c1, c2, c3⟩, _⟩ := st'
  have c1' : h₂.get? it = some o' := (hs₂.2 it (Ne.symm hei)).trans c1
  have kb : KB [e, it] s.heap h₂ := by
   refine ⟨fun b o hb eb => ?_, fun b hb => ?_⟩
   ·simp at hb
    exact (hs₂.2 b hb.1).trans (hk b o hb.1 hb.2 eb)
   ·rcases List.mem_cons.mp hb with rfl | hb
    ·exact ⟨_, he₂⟩
    ·rw [List.mem_singleton.mp hb]; exact ⟨_, c1'⟩
  have ht₂ : h₂.get? s.heap.objs.size = some { cls := .type "tuple", data := .seq #[.int i tk, y] } := (hs₂.2 _ (Nat.ne_of_gt hlt)).trans hT
  refine hQ _ h₂ _ (.tup ht₂ rfl rfl (.cons (.int _ _) (.cons (rv.aside sh kb) .nil))) ⟨⟨_, by simpa using he₂⟩, ⟨o', c1', c2, c3⟩, ol, vs, m, ?_, b2, b3, b4.aside sh kb, b5⟩ kb
  exact kb.1 l ol (by simp; exact ⟨hle, hli⟩) b1
 done := fun S s Q E st hh' hni hQ => by
  have hlen : (XW ds).length = ds.length := by unfold XW; simp
  rw [hlen] at st
  obtain ⟨⟨old, he⟩, ⟨o, a1, a2, a3⟩, ol, vs, m, b1, b2, b3, b4, b5⟩ := st
  have hT : s.TypeIs (.ref e) "enumerate" := ⟨_, he, rfl⟩
  unfold pyNext
  refine wpAny_bind (wpAny_attempt (wpAny_callSpecial?_slot (name := Str.ofString "__next__") hT F.slot_enumerate_next
   (wpAny_call_entry F.slot_enumerate_next hT F.entry_enumerate_next ?_ (F.args_enumerate_next_1 _))))
  show wpAny _ _ (field (.ref e) 2 >>= _) _ _ _
  refine wpAny_bind (wpAny_field he rfl (x := .ref it) rfl ?_)
  refine wpAny_bind (JJ (A := A.in1) hh' (fun v q => hni v q it (.tail _ (.head _))) ⟨o, a1, a2, a3⟩ ⟨ol, b1, b2, m, b3⟩ (by have := b4.length; simp at this; simp [this]) fun h' x kb hx' => ?_)
  obtain ⟨ox, ho, hc⟩ := hx'
  refine wpAny_bind (wpAny_isInstance (T := "StopIteration") (b := true) ⟨ox, ho, hc⟩ isSubtype_stop ?_)
  refine wpAny_pure (hQ h' s.toks ⟨fun b o hb eb => kb.1 b o (fun q => hb (.tail _ q)) eb, fun b hb => ?_⟩)
  rcases List.mem_cons.mp hb with rfl | hb
  ·exact ⟨_, kb.1 _ _ (by simpa using hei) he⟩
  ·exact kb.2 b hb
 self := fun i S s Q E st hQ => by
  obtain ⟨⟨old, he⟩, _⟩ := st
  exact wpAny_pyIter_enum he hQ
theorem Ej {e it l : Addr} (hh : A.handled = none) (hei : e ≠ it) (hle : l ≠ e) (hli : l ≠ it) (ds : List D) : ItK G A (.Tuple es n p) e [e, it] (Df "list" "list_iterator" e it l ds) (XW ds) where
 shape := J6 (by decide)
 ext := fun i S h S' h' st x => ⟨let ⟨old, he⟩ := st.1; ⟨old, x.exact he (.inr (.inr ⟨_, rfl⟩)) (.fields rfl)⟩, U9.ext (.inl rfl) i S h S' h' st.2 x⟩
 item := fun i S s d Q E E' hd st hQ => by
  obtain ⟨x, hx, rfl⟩ := Vg hd
  have sh := J6 (by decide) i S s.heap st
  obtain ⟨⟨old, he⟩, ⟨o, a1, a2, a3⟩, ol, vs, m, b1, b2, b3, b4, b5⟩ := st
  obtain ⟨v, hv, rv⟩ := b4.get hx
  have hi : i < vs.size := by
   have := (List.getElem?_eq_some_iff.mp hv).1
   simpa using this
  refine wpAny_pyNext_enum_itemD (Draws.list (A := A.in1) hh it l hli vs) he ⟨⟨o, a1, a2, a3⟩, ol, b1, b2, m, b3⟩ hi hei (by simp; exact ⟨hei, Ne.symm hle⟩) fun y h' tk hP ho st' hT hsz hk => ?_
  have hy : y = v := by rw [show vs[i]? = some v by simpa using hv] at hP; cases hP; rfl
  subst hy
  refine ⟨_, rfl, wpAny_letOwnedTupleGo_enum (s := { s with heap := h', toks := tk + 1 }) ho fun h₂ he₂ hs₂ => ?_⟩
  have hlt : e < s.heap.objs.size := Heap.lt_size he
  have hlt' : it < s.heap.objs.size := Heap.lt_size a1
  obtain ⟨⟨o', c1, c2, c3⟩, _⟩ := st'
  have c1' : h₂.get? it = some o' := (hs₂.2 it (Ne.symm hei)).trans c1
  have kb : KB [e, it] s.heap h₂ := by
   refine ⟨fun b o hb eb => ?_, fun b hb => ?_⟩
   ·simp at hb
    exact (hs₂.2 b hb.1).trans (hk b o hb.1 hb.2 eb)
   ·rcases List.mem_cons.mp hb with rfl | hb
    ·exact ⟨_, he₂⟩
    ·rw [List.mem_singleton.mp hb]; exact ⟨_, c1'⟩
  have ht₂ : h₂.get? s.heap.objs.size = some { cls := .type "tuple", data := .seq #[.int i tk, y] } := (hs₂.2 _ (Nat.ne_of_gt hlt)).trans hT
  refine hQ _ h₂ _ (.tup ht₂ rfl rfl (.cons (.int _ _) (.cons (rv.aside sh kb) .nil))) ⟨⟨_, by simpa using he₂⟩, ⟨o', c1', c2, c3⟩, ol, vs, m, ?_, b2, b3, b4.aside sh kb, b5⟩ kb
  exact kb.1 l ol (by simp; exact ⟨hle, hli⟩) b1
 done := fun S s Q E st hh' hni hQ => by
  have hlen : (XW ds).length = ds.length := by unfold XW; simp
  rw [hlen] at st
  obtain ⟨⟨old, he⟩, ⟨o, a1, a2, a3⟩, ol, vs, m, b1, b2, b3, b4, b5⟩ := st
  have hT : s.TypeIs (.ref e) "enumerate" := ⟨_, he, rfl⟩
  unfold pyNext
  refine wpAny_bind (wpAny_attempt (wpAny_callSpecial?_slot (name := Str.ofString "__next__") hT F.slot_enumerate_next
   (wpAny_call_entry F.slot_enumerate_next hT F.entry_enumerate_next ?_ (F.args_enumerate_next_1 _))))
  show wpAny _ _ (field (.ref e) 2 >>= _) _ _ _
  refine wpAny_bind (wpAny_field he rfl (x := .ref it) rfl ?_)
  refine wpAny_bind (KG (A := A.in1) hh' (fun v q => hni v q it (.tail _ (.head _))) ⟨o, a1, a2, a3⟩ ⟨ol, b1, b2, m, b3⟩ (by have := b4.length; simp at this; simp [this]) fun h' x kb hx' => ?_)
  obtain ⟨ox, ho, hc⟩ := hx'
  refine wpAny_bind (wpAny_isInstance (T := "StopIteration") (b := true) ⟨ox, ho, hc⟩ isSubtype_stop ?_)
  refine wpAny_pure (hQ h' s.toks ⟨fun b o hb eb => kb.1 b o (fun q => hb (.tail _ q)) eb, fun b hb => ?_⟩)
  rcases List.mem_cons.mp hb with rfl | hb
  ·exact ⟨_, kb.1 _ _ (by simpa using hei) he⟩
  ·exact kb.2 b hb
 self := fun i S s Q E st hQ => by
  obtain ⟨⟨old, he⟩, _⟩ := st
  exact wpAny_pyIter_enum he hQ
end
noncomputable def WA (f : AEnv → Res T) : AEnv → Res (List D) := fun ρ => (f ρ).bind fun t ρ₁ => match t.val with
 | .list ds => .ok (XW ds) ρ₁
 | .tup ds => .ok (XW ds) ρ₁
 | _ => .stuck
set_option tactic.hygienic true in
theorem EJ {G : Gd} {k : Nat} {sc : Scope} {es : List Expr} {n : Nat} {tp p pos : Pos} {e : Expr} {f : AEnv → Res T} (hq : G.quiet = true) (hn : Sim G k sc (.Name "enumerate" p) (Qe (.glob (.type "enumerate")))) (h : Sim G k sc e f) (hu : QS e = true) :
  KF G k sc (.Tuple es n tp) (.Call (.Name "enumerate" p) [e] [] pos) (WA f) := by
 intro cx ok ρ S s r Q E out
 show wpAny G.M cx.A (do callWith pos (← eval (.Name "enumerate" p) cx.env) [] (backTo pos (starEach [e] cx.env)) []) _ E s
 refine wpAny_bind (hn cx ok ρ S s r _ _ ?_)
 intro v h₀ t₀ S₀ r₀ j₀ x₀ v₀
 have hv : v = .type "enumerate" := by cases j₀; rfl
 subst hv
 refine ZQ (fun a q => by cases q) (YN [e] (by simp [hu])) (X1 (by simp [hu]) ?_)
 rw [Yj hu]
 refine wpAny_bind ((h cx ok ρ S₀ { s with heap := h₀, toks := t₀ } r₀).shared _ _ ?_)
 refine Dz.stepS (s := s) (tg := .Tuple es n tp) out x₀ fun t ρ₁ out v h₁ t₁ S₁ r₁ j₁ x₁ v₁ => ?_
 refine wpAny_bind (wpAny_pure (wpAny_bind (wpAny_holding (wpAny_pure (wpAny_pure ?_)))))
 have xx := x₀.trans x₁
 have nw : ∀ b ∈ [h₁.objs.size + 1, h₁.objs.size], s.heap.get? b = none := fun b hb => by
  refine xx.none (Heap.get?_none_of_le ?_)
  rcases List.mem_cons.mp hb with rfl | hb
  ·exact Nat.le_succ _
  ·rw [List.mem_singleton.mp hb]; exact Nat.le_refl _
 have ne : h₁.objs.size + 1 ≠ h₁.objs.size := Nat.succ_ne_self _
 split at out
 ·rename_i ds e
  rw [e] at j₁
  cases j₁ with
  | list hs e1 e2 e3 q =>
   rename_i a o vs m
   have ha := Heap.lt_size e1
   refine call_enumerate_list (s := { s with heap := h₁, toks := t₁ }) ⟨o, e1, e2.1, m, e3⟩ fun h₂ he hit hz hk => ?_
   obtain ⟨r₂, x₂, v₂⟩ := r₁.keepsE hk
   refine wpAny_pyIter_enum he ?_
   exact out _ [h₁.objs.size + 1, h₁.objs.size] _ S₁ h₂ t₁ r₂ (Ej (ok.hd hq) ne (Nat.ne_of_lt (Nat.lt_succ_of_lt ha)) (Nat.ne_of_lt ha) ds) ⟨⟨_, he⟩, hit, o, vs, m, hk _ _ e1, e2.1, e3, q.ext x₂, fun _ => hs⟩ nw (xx.trans x₂) (((v₀ rfl).trans (v₁ rfl)).trans v₂)
 ·rename_i ds e
  rw [e] at j₁
  cases j₁ with
  | tup e1 e2 e3 q =>
   rename_i a o vs m
   have ha := Heap.lt_size e1
   refine UB (s := { s with heap := h₁, toks := t₁ }) ⟨o, e1, e2, m, e3⟩ fun h₂ he hit hk => ?_
   obtain ⟨r₂, x₂, v₂⟩ := r₁.keepsE hk
   refine wpAny_pyIter_enum he ?_
   exact out _ [h₁.objs.size + 1, h₁.objs.size] _ S₁ h₂ t₁ r₂ (EG (ok.hd hq) ne (Nat.ne_of_lt (Nat.lt_succ_of_lt ha)) (Nat.ne_of_lt ha) ds) ⟨⟨_, he⟩, hit, o, vs, m, hk _ _ e1, e2, e3, q.ext x₂, fun q => absurd q (by decide)⟩ nw (xx.trans x₂) (((v₀ rfl).trans (v₁ rfl)).trans v₂)
 ·exact out.elim
end Mine
end

section
namespace Mine
open PySem PyProof.Rows
noncomputable def JB (h : Heap) (X : List Addr) : Heap := { h with objs := h.objs.mapIdx fun i o => if i ∈ X then { o with data := .freed } else o }
theorem X9 (h : Heap) (X : List Addr) (a : Addr) : (JB h X).get? a = if a ∈ X then none else h.get? a := by
 unfold JB Heap.get?
 simp only [Array.getElem?_mapIdx]
 cases h.objs[a]? with
 | none => simp
 | some o =>
  by_cases hx : a ∈ X
  ·simp [hx]
  ·simp [hx]
theorem C5 {h : Heap} {X : List Addr} {a : Addr} {o : Obj} (e : (JB h X).get? a = some o) : a ∉ X ∧ h.get? a = some o := by
 rw [X9] at e
 split at e
 ·cases e
 ·exact ⟨by assumption, e⟩
structure After (X : List Addr) (S : Addr → Prop) (h : Heap) (S' : Addr → Prop) (h' : Heap) : Prop where
 keep : ∀ b o, b ∉ X → h.get? b = some o → Kept h' b o
 dom : ∀ b ∈ X, ∃ o, h'.get? b = some o
 shape : ∀ b ∈ X, ∃ o, h.get? b = some o ∧ XJ o
 sub : ∀ b, S b → S' b
 new : ∀ b, S' b → S b ∨ b ∈ X ∨ h.get? b = none
 sdom : Dg S' h'
section
variable {X : List Addr} {S S' S'' : Addr → Prop} {h h' h'' : Heap}
theorem After.exact (k : After X S h S' h') {b : Addr} {o : Obj} (e : h.get? b = some o) (hi : ¬ XJ o) (hn : Yn o) : h'.get? b = some o := by
 have hb : b ∉ X := fun m => by obtain ⟨o', e', q⟩ := k.shape b m; rw [e] at e'; cases e'; exact hi q
 obtain ⟨sl, e', q⟩ := k.keep b o hb e
 rw [q hn] at e'; exact e'
theorem After.domAll (k : After X S h S' h') {b : Addr} {o : Obj} (e : h.get? b = some o) : ∃ o', h'.get? b = some o' := by
 by_cases hb : b ∈ X
 ·exact k.dom b hb
 ·obtain ⟨sl, e', _⟩ := k.keep b o hb e; exact ⟨_, e'⟩
theorem ZU {o : Obj} {vs : Array Value} {n : Nat} (hd : o.data = .seq vs n) : ¬ XJ o := fun ⟨_, _, _, _, _, _, q⟩ => by rw [hd] at q; cases q
theorem Yu {o : Obj} {v : Option Value} (hd : o.data = .cell v) : ¬ XJ o := fun ⟨_, _, _, _, _, _, q⟩ => by rw [hd] at q; cases q
theorem XI {o : Obj} {es : Array DictEntry} {n : Nat} (hd : o.data = .dict es n) : ¬ XJ o := fun ⟨_, _, _, _, _, _, q⟩ => by rw [hd] at q; cases q
theorem After.carry (k : After X S h S' h') : Carry S h S' h' where
 tup := fun e hc hd => k.exact e (ZU hd) (.seq hd)
 list := fun hs e hc hd => ⟨k.sub _ hs, k.exact e (ZU hd) (.seq hd)⟩
 range := fun e => k.exact e (fun ⟨_, _, q1, _, _, q4, _⟩ => by cases q1; exact q4 rfl) (.fields rfl)
 exc := fun e hc hn hd r => .exc (k.exact e (fun ⟨_, _, q1, _⟩ => by rw [hc] at q1; cases q1) (.fields hd)) hc hn hd r
 dom := fun a o e' => k.domAll e'
 obj := fun s1 s2 e n => ⟨k.sub _ s1, k.sub _ s2, k.exact e (fun ⟨_, _, q1, _⟩ => by cases q1) (fun es m q => by cases q), by
  obtain ⟨o, es, ep, ho, hd, r⟩ := n
  have hb : _ ∉ X := fun q => by obtain ⟨o', e', q⟩ := k.shape _ q; rw [ho] at e'; cases e'; exact XI hd q
  obtain ⟨sl, e', _⟩ := k.keep _ o hb ho
  exact ⟨_, es, ep, e', hd, r⟩⟩
theorem RV.after (k : After X S h S' h') {v : Value} {d : D} (q : RV S h v d) : RV S' h' v d := q.map k.carry
theorem After.ns (k : After X S h S' h') {a : Addr} {m : Str → Option Value} (n : h.Ns a m) : h'.Ns a m := by
 obtain ⟨o, es, ep, ho, hd, r⟩ := n
 have hb : a ∉ X := fun q => by obtain ⟨o', e', q⟩ := k.shape a q; rw [ho] at e'; cases e'; exact XI hd q
 obtain ⟨sl, e', _⟩ := k.keep a o hb ho
 exact ⟨_, es, ep, e', hd, r⟩
theorem After.cell (k : After X S h S' h') {c : Addr} {v : Option Value} (n : h.IsCell c v) : h'.IsCell c v := by
 obtain ⟨o, ho, hd⟩ := n
 exact ⟨o, k.exact ho (Yu hd) (fun es n q => by rw [hd] at q; cases q), hd⟩
theorem After.ownV (k : After X S h S' h') {a : Addr} {d : D} (q : Uh S h a d) : Uh S' h' a d :=
 q.map k.carry fun o e hd => k.keep a o (fun m => by
  obtain ⟨o', e', q⟩ := k.shape a m
  rw [e] at e'; cases e'
  rcases hd with ⟨_, _, hd⟩ | ⟨_, _, hd⟩
  ·exact ZU hd q
  ·exact XI hd q) e
theorem After.notS (k : After X S h S' h') {a : Addr} {o : Obj} (e : h.get? a = some o) (hi : ¬ XJ o) (hs : ¬ S a) : ¬ S' a := fun q => by
 rcases k.new a q with q | q | q
 ·exact hs q
 ·obtain ⟨o', e', q⟩ := k.shape a q; rw [e] at e'; cases e'; exact hi q
 ·rw [e] at q; cases q
end
section
variable {G : Gd} {cx : Cx} {sc : Scope} {ρ : AEnv} {X : List Addr} {S S' : Addr → Prop} {h h' : Heap}
theorem Rel.after (r : Rel G cx sc ρ S h) (k : After X S h S' h') (hb : G.B.StaysIn h') (new : ∀ b ∈ X, cx.h₀.get? b = none) : Rel G cx sc ρ S' h' ∧ Qq cx.env h h' := by
 have same : Qq cx.env h h' := fun y w q => by
  rcases q with ⟨a, m₁, b, c⟩ | ⟨a, c, b, d⟩
  ·exact .inl ⟨a, m₁, k.ns b, c⟩
  ·exact .inr ⟨a, c, b, k.cell d⟩
 have hf : ∀ y w, Var cx.env h' y w → Var cx.env h y w := fun y w q => by
  rcases q with ⟨a, m₁, b, c⟩ | ⟨a, c, b, d⟩
  ·obtain ⟨m₀, n₀⟩ := r.ns
   exact .inl ⟨a, m₀, n₀, by rw [(k.ns n₀).agree b y]; exact c⟩
  ·obtain ⟨w₀, n₀⟩ := r.cells y c b
   exact .inr ⟨a, c, b, by rw [IsCell.inj d (k.cell n₀)]; exact n₀⟩
 refine ⟨⟨hb, fun b o q => ?_, fun env he => ?_, let ⟨m, n⟩ := r.ns; ⟨m, k.ns n⟩, fun y c q => let ⟨w, n⟩ := r.cells y c q; ⟨w, k.cell n⟩, k.sdom, fun b q => ?_, ?_, fun y c e => ?_, fun y b hdy q => let ⟨o, eo⟩ := r.live y b hdy (hf y _ q); k.domAll eo, r.clean, fun v q => let ⟨C, e⟩ := r.hok v q; ⟨C, e.after k⟩, fun j y u hy hu => ?_, fun j l y z m m' d d' u hy hz hj hl a b => r.inj j l y z m m' d d' u hy hz hj hl (hf y _ a) (hf z _ b), r.dok.back hf⟩, same⟩
 ·obtain ⟨sl, q₁, k₁⟩ := r.keep b o q
  obtain ⟨sl', q₂, k₂⟩ := k.keep b _ (fun m => by rw [new b m] at q; cases q) q₁
  exact ⟨sl', q₂, fun hn => (k₂ hn).trans (k₁ hn)⟩
 ·obtain ⟨p, L, o, b, c, d, es, n, q⟩ := r.ff env he
  have hL : L ∉ X := fun m => by obtain ⟨o', e', q'⟩ := k.shape L m; rw [d] at e'; cases e'; exact XI q q'
  obtain ⟨sl', q₂, k₂⟩ := k.keep L o hL d
  exact ⟨p, L, _, b, c, q₂, es, n, q⟩
 ·rcases k.new b q with q | q | q
  ·exact r.sok b q
  ·exact .inr (new b q)
  ·exact .inr (r.keep.none q)
 ·obtain ⟨m, o, es, ep, e, hd, _⟩ := r.ns
  exact k.notS e (XI hd) r.sloc
 ·obtain ⟨w, o, e', hd⟩ := r.cells y c e
  exact k.notS e' (Yu hd) (r.scell y c e)
 ·obtain ⟨w, hw', tw⟩ := r.vars j y u hy hu
  refine ⟨w, same y w hw', ?_⟩
  cases u with
  | sh d => exact RV.after k tw
  | ow m d =>
   obtain ⟨b, rfl, n1, ow, n2⟩ := tw
   obtain ⟨o, ho, hd⟩ := ow.live
   exact ⟨b, rfl, k.notS ho (hd.elim (fun ⟨_, _, hd⟩ => ZU hd) fun ⟨_, _, hd⟩ => XI hd) n1, k.ownV ow, n2⟩
end
noncomputable def Qp (csc sc : Scope) : Scope := { csc with names := csc.names.map fun (n, k) => if (k == .free && sc.kind == .function && sc.names.lookup n == some .cell) then (n, .cell) else (n, k) }
theorem CR {csc sc : Scope} {env : Env} (h : env.scope = sc) : relabel csc env = Qp csc sc := by
 unfold relabel Qp Env.kindOf
 rw [h]
noncomputable def Ut : List Str → Bool
 | [] => true
 | x :: r => !r.contains x && Ut r
theorem X8 : ∀ {l : List Str}, Ut l = true → l.Nodup
 | [], _ => .nil
 | x :: r, h => by
  rw [Ut, Bool.and_eq_true_iff] at h
  exact List.nodup_cons.mpr ⟨by simpa using h.1, X8 h.2⟩
noncomputable def Jw (sc csc : Scope) : Bool := csc.kind == .function && Ut (csc.names.map (·.1)) && csc.names.all fun x => x.2 != .free || ((Qf sc).contains x.1 && (sc.names.lookup x.1 == some .cell || sc.names.lookup x.1 == some .free))
theorem YW {α : Type} : ∀ {l : List (Str × α)} {x : Str} {k : α}, (l.map (·.1)).Nodup → (x, k) ∈ l → l.lookup x = some k
 | (y, j) :: r, x, k, nd, h => by
  have nd' : y ∉ r.map (·.1) ∧ (r.map (·.1)).Nodup := by simpa using nd
  rw [List.lookup_cons]
  rcases List.mem_cons.mp h with e | hr
  ·cases e; simp
  ·have : (x == y) = false := by
    rw [beq_eq_false_iff_ne]
    rintro rfl
    exact nd'.1 (List.mem_map.mpr ⟨(x, k), hr, rfl⟩)
   rw [this]
   exact YW nd'.2 hr
theorem U5 {α : Type} (f : Str → α → α) (x : Str) : ∀ (l : List (Str × α)), (l.map fun p => (p.1, f p.1 p.2)).lookup x = (l.lookup x).map (f x)
 | [] => rfl
 | (n, k) :: r => by
  rw [List.map_cons, List.lookup_cons, List.lookup_cons]
  cases hx : x == n with
  | true => rw [beq_iff_eq.mp hx]; rfl
  | false => exact U5 f x r
theorem Ub {csc sc : Scope} {x : Str} : (Qp csc sc).names.lookup x = (csc.names.lookup x).map fun k => if (k == .free && sc.kind == .function && sc.names.lookup x == some .cell) then .cell else k := by
 have e : (Qp csc sc).names = csc.names.map fun p => (p.1, (fun n k => if (k == NameKind.free && sc.kind == .function && sc.names.lookup n == some .cell) then NameKind.cell else k) p.1 p.2) := by
  unfold Qp
  apply List.map_congr_left
  intro p _
  obtain ⟨n, k⟩ := p
  simp only
  split <;> rfl
 rw [e]
 exact U5 (fun n k => if (k == NameKind.free && sc.kind == .function && sc.names.lookup n == some .cell) then NameKind.cell else k) x csc.names
theorem Uu {sc : Scope} (h : (sc.names.map (·.1)).Nodup) : (Qf sc).Nodup := by
 unfold Qf
 exact h.sublist (List.Sublist.map _ List.filter_sublist)
theorem WB (csc sc : Scope) : (Qp csc sc).names.map (·.1) = csc.names.map (·.1) := by
 unfold Qp
 simp only [List.map_map]
 apply List.map_congr_left
 intro x _
 simp only [Function.comp]
 split <;> rfl
noncomputable def Y5 (env : Env) : List (Str × NameKind) → List (Str × Addr) → List (Str × Addr)
 | [], acc => acc
 | (n, k) :: r, acc => if k == .free then (match env.cells.lookup n with | some c => Y5 env r ((n, c) :: acc) | none => Y5 env r acc) else Y5 env r acc
theorem O2 {csc : Scope} {env : Env} (h : ∀ x ∈ csc.names, x.2 = .free → ∃ c, env.cells.lookup x.1 = some c) : closureFor csc env = pure (Y5 env csc.names []) := by
 have key : ∀ (l : List (Str × NameKind)) (acc : List (Str × Addr)), (∀ x ∈ l, x.2 = .free → ∃ c, env.cells.lookup x.1 = some c) →
   (forIn l acc fun x r => match x with | (name, kind) => if kind == .free then (do let a ← cellOf env name; pure (ForInStep.yield ((name, a) :: r))) else pure (ForInStep.yield r) : Sem (List (Str × Addr))) = pure (Y5 env l acc) := by
  intro l
  induction l with
  | nil => intro acc _; rfl
  | cons x r ih =>
   intro acc hl
   obtain ⟨n, k⟩ := x
   rw [List.forIn_cons, Y5]
   by_cases hk : k == .free
   ·obtain ⟨c, hc⟩ := hl (n, k) (.head _) (beq_iff_eq.mp hk)
    simp only [hk, if_true]
    have : cellOf env n = pure c := by unfold cellOf; simp only at hc; rw [hc]
    rw [this]
    simp only [hc]
    rw [pure_bind, pure_bind]
    exact ih _ fun y hy => hl y (.tail _ hy)
   ·simp only [hk, Bool.false_eq_true, if_false]
    rw [pure_bind]
    exact ih _ fun y hy => hl y (.tail _ hy)
 unfold closureFor
 have := key csc.names [] h
 simp only [bind_pure] 
 exact this
set_option tactic.hygienic true in
theorem X2 {env : Env} : ∀ {l : List (Str × NameKind)} {acc : List (Str × Addr)} {x : Str} {c : Addr}, (Y5 env l acc).lookup x = some c → env.cells.lookup x = some c ∨ acc.lookup x = some c
 | [], _, _, _, h => .inr h
 | (n, k) :: r, acc, x, c, h => by
  rw [Y5] at h
  split at h
  ·split at h
   ·rename_i c' hc
    rcases X2 h with q | q
    ·exact .inl q
    ·rw [List.lookup_cons] at q
     cases hx : x == n with
     | true => rw [hx] at q; cases q; rw [beq_iff_eq.mp hx]; exact .inl hc
     | false => rw [hx] at q; exact .inr q
   ·exact X2 h
  ·exact X2 h
set_option tactic.hygienic true in
theorem Ja {env : Env} : ∀ {l : List (Str × NameKind)} {acc : List (Str × Addr)} {x : Str} {c : Addr}, (Y5 env l acc).lookup x = some c → (x, .free) ∈ l ∨ ∃ c', acc.lookup x = some c'
 | [], _, _, _, h => .inr ⟨_, h⟩
 | (n, k) :: r, acc, x, c, h => by
  rw [Y5] at h
  split at h
  ·rename_i hk
   split at h
   ·rcases Ja h with q | ⟨c', q⟩
    ·exact .inl (.tail _ q)
    ·rw [List.lookup_cons] at q
     cases hx : x == n with
     | true => rw [beq_iff_eq.mp hx, ← beq_iff_eq.mp hk]; exact .inl (.head _)
     | false => rw [hx] at q; exact .inr ⟨_, q⟩
   ·rcases Ja h with q | q
    ·exact .inl (.tail _ q)
    ·exact .inr q
  ·rcases Ja h with q | q
   ·exact .inl (.tail _ q)
   ·exact .inr q
set_option tactic.hygienic true in
theorem YI {env : Env} {x : Str} {c : Addr} (hc : env.cells.lookup x = some c) : ∀ {l : List (Str × NameKind)} {acc : List (Str × Addr)}, ((x, .free) ∈ l ∨ acc.lookup x = some c) → (Y5 env l acc).lookup x = some c
 | [], _, h => h.elim (fun q => by cases q) id
 | (n, k) :: r, acc, h => by
  rw [Y5]
  by_cases hx : x = n
  ·subst hx
   split
   ·rw [hc]
    exact YI hc (.inr (by simp))
   ·rename_i hk
    refine YI hc ?_
    rcases h with h | h
    ·rcases List.mem_cons.mp h with e | h
     ·cases e; exact absurd rfl hk
     ·exact .inl h
    ·exact .inr h
  ·have h' : (x, NameKind.free) ∈ r ∨ acc.lookup x = some c := h.imp (fun h => by
    rcases List.mem_cons.mp h with e | h
    ·cases e; exact absurd rfl hx
    ·exact h) id
   have hb : (x == n) = false := by simpa using hx
   split
   ·split
    ·exact YI hc (h'.imp id fun q => by rw [List.lookup_cons, hb]; exact q)
    ·exact YI hc h'
   ·exact YI hc h'
set_option tactic.hygienic true in
theorem ZY : ∀ {l : List (Str × NameKind)} {n : Nat} {acc : List (Str × Addr)} {x : Str} {c : Addr}, (cellsFrom n l acc).lookup x = some c → (n ≤ c ∧ (x, .cell) ∈ l) ∨ acc.lookup x = some c
 | [], _, _, _, _, h => .inr h
 | (y, k) :: r, n, acc, x, c, h => by
  unfold cellsFrom at h
  split at h
  ·rename_i hk
   rcases ZY h with ⟨q, m⟩ | q
   ·exact .inl ⟨Nat.le_of_succ_le q, .tail _ m⟩
   ·rw [List.lookup_cons] at q
    cases hx : x == y with
    | true => rw [hx] at q; cases q; rw [beq_iff_eq.mp hx, ← beq_iff_eq.mp hk]; exact .inl ⟨Nat.le_refl _, .head _⟩
    | false => rw [hx] at q; exact .inr q
  ·rcases ZY h with ⟨q, m⟩ | q
   ·exact .inl ⟨q, .tail _ m⟩
   ·exact .inr q
set_option tactic.hygienic true in
theorem Jt : ∀ {l : List (Str × NameKind)} {n : Nat} {acc : List (Str × Addr)} {x : Str}, (∀ k, (x, k) ∈ l → k ≠ .cell) → (cellsFrom n l acc).lookup x = acc.lookup x
 | [], _, _, _, _ => rfl
 | (y, k) :: r, n, acc, x, h => by
  unfold cellsFrom
  split
  ·rename_i hk
   rw [Jt fun k' m => h k' (.tail _ m), List.lookup_cons]
   have : (x == y) = false := by
    rw [beq_eq_false_iff_ne]
    rintro rfl
    exact h k (.head _) (beq_iff_eq.mp hk)
   rw [this]
  ·exact Jt fun k' m => h k' (.tail _ m)
theorem UV {M : Model} {A : Around} {E : Value → Shared → Prop} {s : Shared} {csc : Scope} {gl : Addr} {cl : List (Str × Addr)} {q : Str} {env : Env} {Q : Env → Shared → Prop}
  (h : Q { scope := csc, locals := s.heap.objs.size, globals := gl, cells := cellsFrom (s.heap.objs.size + 1) csc.names cl, qual := q, func := none, code := env.code, frame := env.frame, builtins := env.builtins } { s with heap := pushCells (s.heap.push { cls := .type "dict", data := .dict #[] }) csc.names }) :
  wpAny M A (newFunctionEnv csc gl cl [] q none .none (some env)) Q E s := by
 simp only [newFunctionEnv, Option.isSome_some, if_true]
 refine wpAny_bind (wpAny_alloc ?_)
 refine wpAny_bind (wpAny_layCells _ (fun name kind cells => by cases hkc : kind == NameKind.cell <;> simp [hkc]) _ _ _ _ ?_)
 rw [show ({ s with heap := s.heap.push { cls := .type "dict", data := .dict #[] } } : Shared).heap.objs.size = s.heap.objs.size + 1 from Heap.size_push ..]
 rw [List.forIn_nil]
 exact wpAny_bind (wpAny_pure (wpAny_pure h))
noncomputable def T.weak : T → T
 | .sh d => .sh d
 | .ow _ d => .ow false d
noncomputable def Uz (sc csc : Scope) (ρ : AEnv) (x : Str) : Option (Option T) :=
 if csc.names.lookup x == some .free then (match (Qf sc).findIdx? (· == x) with
  | some i => (match ρ[i]? with | some (some t) => some (some t.weak) | _ => none)
  | none => none) else some none
noncomputable def KI (sc csc : Scope) (ρ : AEnv) : List Str → Option AEnv
 | [] => some []
 | x :: r => match Uz sc csc ρ x, KI sc csc ρ r with
  | some t, some ts => some (t :: ts)
  | _, _ => none
set_option tactic.hygienic true in
theorem CD {sc csc : Scope} {ρ : AEnv} : ∀ {l : List Str} {ρ₀ : AEnv}, KI sc csc ρ l = some ρ₀ → ∀ {j : Nat} {x : Str} {u : Option T}, l[j]? = some x → ρ₀[j]? = some u → Uz sc csc ρ x = some u
 | [], _, _, _, _, _, h, _ => by simp at h
 | y :: r, ρ₀, e, j, x, u, hx, hu => by
  rw [KI] at e
  split at e
  ·rename_i t ts h1 h2
   cases e
   cases j with
   | zero => simp at hx hu; subst hx; subst hu; exact h1
   | succ j => exact CD h2 (by simpa using hx) (by simpa using hu)
  ·cases e
set_option tactic.hygienic true in
theorem Cv {sc csc : Scope} {ρ : AEnv} : ∀ {l : List Str} {ρ₀ : AEnv}, KI sc csc ρ l = some ρ₀ → ∀ {x : Str}, x ∈ l → ∃ u, Uz sc csc ρ x = some u
 | [], _, _, _, h => by cases h
 | y :: r, ρ₀, e, x, hx => by
  rw [KI] at e
  split at e
  ·rename_i t ts h1 h2
   rcases List.mem_cons.mp hx with rfl | hx
   ·exact ⟨_, h1⟩
   ·exact Cv h2 hx
  ·cases e
set_option tactic.hygienic true in
theorem Ko {sc csc : Scope} {ρ : AEnv} {x : Str} {t : T} (h : Uz sc csc ρ x = some (some t)) : csc.names.lookup x = some .free ∧ ∃ (i : Nat) (t₀ : T), (Qf sc)[i]? = some x ∧ ρ[i]? = some (some t₀) ∧ t = t₀.weak := by
 unfold Uz at h
 split at h
 ·rename_i hf
  refine ⟨beq_iff_eq.mp hf, ?_⟩
  split at h
  ·rename_i i hi
   split at h
   ·rename_i t₀ ht
    cases h
    obtain ⟨h1, h2, _⟩ := List.findIdx?_eq_some_iff_getElem.mp hi
    exact ⟨i, t₀, by rw [List.getElem?_eq_getElem h1]; exact congrArg some (beq_iff_eq.mp h2), ht, rfl⟩
   ·cases h
  ·cases h
 ·cases h
theorem Cp {sc csc : Scope} {ρ : AEnv} {x : Str} {u : Option T} (h : Uz sc csc ρ x = some u) (hf : csc.names.lookup x = some .free) : ∃ t, u = some t := by
 unfold Uz at h
 rw [if_pos (by rw [hf]; rfl)] at h
 split at h
 ·split at h
  ·cases h; exact ⟨_, rfl⟩
  ·cases h
 ·cases h
noncomputable def XH (csc : Scope) (env : Env) (C : Addr) : List (Str × Addr) := cellsFrom (C + 1) csc.names (Y5 env csc.names [])
noncomputable def Yx (csc sc : Scope) (env : Env) (C : Addr) : Env := { scope := Qp csc sc, locals := C, globals := env.globals, cells := XH csc env C, qual := env.qual, func := none, code := env.code, frame := env.frame, builtins := env.builtins }
noncomputable def Kd (csc : Scope) (env : Env) (C : Addr) : List Addr := ((XH csc env C).filter fun p => decide (C < p.2)).map (·.2)
noncomputable def W9 (cx : Cx) (csc sc : Scope) (C : Addr) (wr : List Addr) (S : Addr → Prop) (h : Heap) : Cx := { A := cx.A, env := Yx csc sc cx.env C, fs := cx.fs, h₀ := JB h (wr ++ C :: Kd csc cx.env C), P := S }
structure CI (G : Gd) (cx : Cx) (sc csc : Scope) (S₁ : Addr → Prop) (h₁ : Heap) (wr : List Addr) (C : Addr) (S : Addr → Prop) (h : Heap) : Prop where
 aft : After wr S₁ h₁ S h
 base : G.B.StaysIn h
 ns : ∃ m, h.Ns C m
 cells : ∀ x c, (XH csc cx.env C).lookup x = some c → ∃ v, h.IsCell c v
 sloc : ¬ S C
 scell : ∀ x c, (XH csc cx.env C).lookup x = some c → ¬ S c
 live : ∀ x a, X3 x = false → Var (Yx csc sc cx.env C) h x (.ref a) → ∃ o, h.get? a = some o
theorem OZ {lo : Nat} {l : List (Str × NameKind)} : ∀ {n : Nat} {acc : List (Str × Addr)}, (∀ x c, acc.lookup x = some c → c < n) → (∀ x y c, lo ≤ c → acc.lookup x = some c → acc.lookup y = some c → x = y) → ∀ x y c, lo ≤ c → (cellsFrom n l acc).lookup x = some c → (cellsFrom n l acc).lookup y = some c → x = y := by
 induction l with
 | nil => intro n acc _ h; exact h
 | cons zk r ih =>
  intro n acc hb h
  obtain ⟨z, k⟩ := zk
  unfold cellsFrom
  split
  ·refine ih (fun x c q => ?_) fun x y c hc qx qy => ?_
   ·rw [List.lookup_cons] at q
    cases hx : x == z with
    | true => rw [hx] at q; cases q; exact Nat.lt_succ_self _
    | false => rw [hx] at q; exact Nat.lt_succ_of_lt (hb x c q)
   ·rw [List.lookup_cons] at qx qy
    cases hx : x == z <;> cases hy : y == z <;> rw [hx] at qx <;> rw [hy] at qy
    ·exact h x y c hc qx qy
    ·cases qy; exact absurd (hb x _ qx) (Nat.lt_irrefl _)
    ·cases qx; exact absurd (hb y _ qy) (Nat.lt_irrefl _)
    ·rw [beq_iff_eq.mp hx, beq_iff_eq.mp hy]
  ·exact ih hb h
section
variable {G : Gd} {cx : Cx} {sc csc : Scope} {ρ₁ ρ₀ : AEnv} {S₁ S S' : Addr → Prop} {h₁ h h' : Heap} {wr : List Addr} {C : Addr} {k : Nat}
structure CG (G : Gd) (cx : Cx) (sc csc : Scope) (ρ₁ : AEnv) (S₁ : Addr → Prop) (h₁ : Heap) (wr : List Addr) (C : Addr) (ρ₀ : AEnv) : Prop where
 hsc : cx.env.scope = sc
 r : Rel G cx sc ρ₁ S₁ h₁
 new : ∀ b ∈ wr, cx.h₀.get? b = none ∧ G.B.get? b = none
 hC : h₁.objs.size ≤ C
 ok : Jw sc csc = true
 cap : KI sc csc ρ₁ (Qf (Qp csc sc)) = some ρ₀
theorem CG.nodup (g : CG G cx sc csc ρ₁ S₁ h₁ wr C ρ₀) : (csc.names.map (·.1)).Nodup := by
 have := g.ok
 unfold Jw at this
 simp only [Bool.and_eq_true] at this
 exact X8 this.1.2
theorem CG.kind (g : CG G cx sc csc ρ₁ S₁ h₁ wr C ρ₀) : csc.kind = .function := by
 have := g.ok
 unfold Jw at this
 simp only [Bool.and_eq_true, beq_iff_eq] at this
 exact this.1.1
theorem CG.free (g : CG G cx sc csc ρ₁ S₁ h₁ wr C ρ₀) {x : Str} (h : (x, .free) ∈ csc.names) : x ∈ Qf sc ∧ (sc.names.lookup x = some .cell ∨ sc.names.lookup x = some .free) := by
 have := g.ok
 unfold Jw at this
 simp only [Bool.and_eq_true] at this
 have := List.all_eq_true.mp this.2 _ h
 simpa using this
theorem ZV {α : Type} {l : List (Str × α)} {n : Str} {c : α} (h : l.lookup n = some c) : (n, c) ∈ l := mem_of_lookup h
theorem CG.taken (g : CG G cx sc csc ρ₁ S₁ h₁ wr C ρ₀) {x : Str} (hf : csc.names.lookup x = some .free) : ∃ (c : Addr) (v : Value) (i : Nat) (t : T), cx.env.cells.lookup x = some c ∧ (XH csc cx.env C).lookup x = some c ∧ h₁.IsCell c (some v) ∧ (Qf sc)[i]? = some x ∧ ρ₁[i]? = some (some t) ∧ Ew cx.h₀ S₁ h₁ v t ∧ (cx.env.kindOf x = some .cell ∨ cx.env.kindOf x = some .free) := by
 have hm := ZV hf
 obtain ⟨hv, hk⟩ := g.free hm
 have hx' : x ∈ Qf (Qp csc sc) := by
  have : (x, if (NameKind.free == .free && sc.kind == .function && sc.names.lookup x == some .cell) then NameKind.cell else .free) ∈ (Qp csc sc).names := by
   unfold Qp
   refine List.mem_map.mpr ⟨(x, .free), hm, ?_⟩
   simp only
   split <;> rfl
  unfold Qf
  refine List.mem_map.mpr ⟨_, List.mem_filter.mpr ⟨this, ?_⟩, rfl⟩
  simp only
  split <;> rfl
 obtain ⟨u, hu⟩ := Cv g.cap hx'
 obtain ⟨t, rfl⟩ := Cp hu hf
 obtain ⟨_, i, t₀, hi, ht, rfl⟩ := Ko hu
 obtain ⟨v, hvar, tv⟩ := g.r.vars i x t₀ hi ht
 have hkk : cx.env.kindOf x = sc.names.lookup x := by unfold Env.kindOf; rw [g.hsc]
 rcases hvar with ⟨a, _⟩ | ⟨a, c, b, d⟩
 ·rw [hkk] at a
  rcases hk with q | q <;> (rw [q] at a; cases a)
 ·refine ⟨c, v, i, t₀, b, ?_, d, hi, ht, tv, a⟩
  unfold XH
  rw [Jt (fun kk m q => by
   subst q
   have := YW g.nodup m
   rw [hf] at this; cases this)]
  exact YI b (.inl hm)
theorem CG.cellOf (g : CG G cx sc csc ρ₁ S₁ h₁ wr C ρ₀) {x : Str} {c : Addr} (hc : (XH csc cx.env C).lookup x = some c) : (C < c ∧ (x, .cell) ∈ csc.names) ∨ (csc.names.lookup x = some .free ∧ cx.env.cells.lookup x = some c ∧ c < h₁.objs.size) := by
 unfold XH at hc
 rcases ZY hc with ⟨q, m⟩ | q
 ·exact .inl ⟨q, m⟩
 ·right
  have hl : cx.env.cells.lookup x = some c := by
   rcases X2 q with q | q
   ·exact q
   ·cases q
  have hm : (x, .free) ∈ csc.names := by
   rcases Ja q with q | ⟨_, q⟩
   ·exact q
   ·cases q
  refine ⟨YW g.nodup hm, hl, ?_⟩
  obtain ⟨v, o, e, _⟩ := g.r.cells x c hl
  exact Heap.lt_size e
theorem CG.notX (g : CG G cx sc csc ρ₁ S₁ h₁ wr C ρ₀) {b : Addr} {o : Obj} (e : h₁.get? b = some o) (hb : b ∉ wr) : b ∉ wr ++ C :: Kd csc cx.env C := by
 have hlt := Heap.lt_size e
 have hC := g.hC
 intro m
 rcases List.mem_append.mp m with m | m
 ·exact hb m
 ·rcases List.mem_cons.mp m with rfl | m
  ·exact absurd hlt (Nat.not_lt.mpr hC)
  ·unfold Kd at m
   obtain ⟨p, hp, rfl⟩ := List.mem_map.mp m
   have := (List.mem_filter.mp hp).2
   simp only [decide_eq_true_eq] at this
   exact absurd (Nat.lt_of_lt_of_le hlt hC) (Nat.not_lt.mpr (Nat.le_of_lt this))
theorem CG.xNew (g : CG G cx sc csc ρ₁ S₁ h₁ wr C ρ₀) {b : Addr} (hb : b ∈ C :: Kd csc cx.env C) : h₁.get? b = none := by
 have hC := g.hC
 refine Heap.get?_none_of_le ?_
 rcases List.mem_cons.mp hb with rfl | m
 ·exact hC
 ·unfold Kd at m
  obtain ⟨p, hp, rfl⟩ := List.mem_map.mp m
  have := (List.mem_filter.mp hp).2
  simp only [decide_eq_true_eq] at this
  exact Nat.le_trans hC (Nat.le_of_lt this)
theorem CI.rel (g : CG G cx sc csc ρ₁ S₁ h₁ wr C ρ₀) (ci : CI G cx sc csc S₁ h₁ wr C S h) : Rel G (W9 cx csc sc C wr S h) (Qp csc sc) ρ₀ S h := by
 obtain ⟨ro, same⟩ := g.r.after ci.aft ci.base fun b hb => (g.new b hb).1
 have nd' : (Qf (Qp csc sc)).Nodup := Uu (by rw [WB]; exact g.nodup)
 have kd : ∀ x, csc.names.lookup x = some .free → (Yx csc sc cx.env C).kindOf x = some .cell ∨ (Yx csc sc cx.env C).kindOf x = some .free := fun x hf => by
  show (Qp csc sc).names.lookup x = _ ∨ (Qp csc sc).names.lookup x = _
  rw [Ub, hf, Option.map_some]
  split
  ·exact .inl rfl
  ·exact .inr rfl
 have got : ∀ (j : Nat) (x : Str) (t : T), (Qf (Qp csc sc))[j]? = some x → ρ₀[j]? = some (some t) → csc.names.lookup x = some .free ∧ ∃ (i : Nat) (t₀ : T) (v : Value), (Qf sc)[i]? = some x ∧ ρ₁[i]? = some (some t₀) ∧ t = t₀.weak ∧ Var cx.env h x v ∧ Var (Yx csc sc cx.env C) h x v ∧ Ew cx.h₀ S h v t₀ := fun j x t hx ht => by
  have hu := CD g.cap hx ht
  obtain ⟨hf, i, t₀, hi, ht₀, rfl⟩ := Ko hu
  obtain ⟨c, v', i', t', hc, hcc, hcell, hi', ht', tv', hkk⟩ := g.taken hf
  obtain ⟨v, hv, tv⟩ := ro.vars i x t₀ hi ht₀
  have : Var cx.env h x v' := .inr ⟨hkk, c, hc, ci.aft.cell hcell⟩
  cases Var.inj hv this
  exact ⟨hf, i, t₀, _, hi, ht₀, rfl, hv, .inr ⟨kd x hf, c, hcc, ci.aft.cell hcell⟩, tv⟩
 refine { base := ci.base, keep := fun b o e => ⟨o.slots, (C5 e).2, fun _ => rfl⟩, ff := ro.ff, ns := ci.ns, cells := ci.cells, sdom := ci.aft.sdom, sok := fun b q => .inl q, sloc := ci.sloc, scell := ci.scell, live := ci.live, clean := fun j x m d hx hj => ?_, hok := ro.hok, vars := fun j x t hx ht => ?_, inj := fun j l x y m m' d d' v hx hy hj hl a b => ?_, dok := fun j x m ks ds hx hj hvx => ?_ }
 rotate_right
 ·obtain ⟨hf, _⟩ := got j x _ hx hj
  obtain ⟨c, v', i', t', hc, hcc, hcell, hi', ht', tv', hkk⟩ := g.taken hf
  cases Var.inj hvx (.inr ⟨kd x hf, c, hcc, ci.aft.cell hcell⟩)
  have : ∃ o, h₁.get? C = some o := by
   cases t' with
   | sh d => exact RV.live tv' _ rfl
   | ow m d => obtain ⟨a, e, _, ow, _⟩ := tv'; cases e; obtain ⟨o, ho, _⟩ := ow.live; exact ⟨o, ho⟩
  obtain ⟨o, ho⟩ := this
  exact absurd (Heap.lt_size ho) (Nat.not_lt.mpr g.hC)
 ·obtain ⟨_, i, t₀, v, hi, ht₀, e, _⟩ := got j x _ hx hj
  cases t₀ with
  | sh d => cases e
  | ow m₀ d₀ => exact g.r.clean i x m₀ d₀ hi ht₀
 ·obtain ⟨_, i, t₀, v, hi, ht₀, rfl, _, hv, tv⟩ := got j x t hx ht
  refine ⟨v, hv, ?_⟩
  cases t₀ with
  | sh d => exact tv
  | ow m d => obtain ⟨a, rfl, n1, ow, _⟩ := tv; exact ⟨a, rfl, n1, ow, fun q => by cases q⟩
 ·obtain ⟨_, i, t₀, v₁, hi, ht₀, e₁, hv₁, hw₁, _⟩ := got j x _ hx hj
  obtain ⟨_, i', t₀', v₂, hi', ht₀', e₂, hv₂, hw₂, _⟩ := got l y _ hy hl
  cases Var.inj a hw₁
  cases Var.inj b hw₂
  have : i = i' := by
   cases t₀ with
   | sh d => cases e₁
   | ow m₀ d₀ =>
    cases t₀' with
    | sh d => cases e₂
    | ow m₁ d₁ => exact ro.inj i i' x y m₀ m₁ d₀ d₁ _ hi hi' ht₀ ht₀' hv₁ hv₂
  subst this
  rw [hi] at hi'
  cases hi'
  obtain ⟨p1, e1⟩ := List.getElem?_eq_some_iff.mp hx
  obtain ⟨p2, e2⟩ := List.getElem?_eq_some_iff.mp hy
  exact (List.getElem_inj nd').mp (e1.trans e2.symm)
theorem CI.bh (g : CG G cx sc csc ρ₁ S₁ h₁ wr C ρ₀) (ci : CI G cx sc csc S₁ h₁ wr C S h) : G.B.StaysIn (W9 cx csc sc C wr S h).h₀ := fun b o e => by
 show (JB h _).get? b = some o
 rw [X9, if_neg (g.notX (g.r.base b o e) fun m => by rw [(g.new b m).2] at e; cases e)]
 exact ci.base b o e
theorem CI.ok (g : CG G cx sc csc ρ₁ S₁ h₁ wr C ρ₀) (ci : CI G cx sc csc S₁ h₁ wr C S h) (ok : CxOk G cx sc k) : CxOk G (W9 cx csc sc C wr S h) (Qp csc sc) k := by
 obtain ⟨env, outer, e1, e2⟩ := ok.top
 exact { hsc := rfl, hk := g.kind, hg := ok.hg, hb := ok.hb, fr := ok.fr, top := ⟨env, outer, e1, e2⟩, hd := ok.hd, room := ok.room, nodup := Uu (by rw [WB]; exact g.nodup), bh := ci.bh g }
theorem CI.fn (g : CG G cx sc csc ρ₁ S₁ h₁ wr C ρ₀) (ci : CI G cx sc csc S₁ h₁ wr C S h) : FnCx G (W9 cx csc sc C wr S h) where
 bh := ci.bh g
 lnew := by
  show (JB h _).get? C = none
  rw [X9, if_pos (List.mem_append.mpr (.inr (.head _)))]
 cap := fun x y c hx hy hn => by
  have own : C < c := by
   rcases g.cellOf hx with ⟨q, _⟩ | ⟨hf, hl, hlt⟩
   ·exact q
   ·exfalso
    obtain ⟨v, hcell⟩ := g.r.cells x c hl
    have hcell0 := hcell
    obtain ⟨o, e, hd⟩ := hcell0
    have : (JB h (wr ++ C :: Kd csc cx.env C)).get? c = none := hn
    rw [X9, if_neg (g.notX e fun m => by obtain ⟨o', e', q⟩ := ci.aft.shape c m; rw [e] at e'; cases e'; exact Yu hd q)] at this
    obtain ⟨o', e', _⟩ := ci.aft.cell hcell
    rw [this] at e'; cases e'
  refine OZ (lo := C + 1) (fun z c' q => ?_) (fun z z' c' hc' q q' => ?_) x y c own hx hy
  ·rcases X2 q with q | q
   ·obtain ⟨v, o, e, _⟩ := g.r.cells z c' q
    exact Nat.lt_succ_of_lt (Nat.lt_of_lt_of_le (Heap.lt_size e) g.hC)
   ·cases q
  ·exfalso
   rcases X2 q with q | q
   ·obtain ⟨v, o, e, _⟩ := g.r.cells z c' q
    exact absurd (Nat.lt_of_lt_of_le (Heap.lt_size e) g.hC) (Nat.not_lt.mpr (Nat.le_of_succ_le hc'))
   ·cases q
 loc := fun x c q => by
  show c ≠ C
  rcases g.cellOf q with ⟨q, _⟩ | ⟨_, _, q⟩
  ·exact Nat.ne_of_gt q
  ·exact Nat.ne_of_lt (Nat.lt_of_lt_of_le q g.hC)
theorem CI.own (g : CG G cx sc csc ρ₁ S₁ h₁ wr C ρ₀) {x : Str} (hx : csc.names.lookup x = some .local ∨ csc.names.lookup x = some .cell) : WC (W9 cx csc sc C wr S h) (Qp csc sc) x := by
 unfold WC
 rw [Ub]
 rcases hx with q | q
 ·rw [q]; exact .inl rfl
 ·rw [q]
  refine .inr ⟨rfl, ?_⟩
  obtain ⟨c, hc⟩ := Option.isSome_iff_exists.mp (Yd csc.names (C + 1) (Y5 cx.env csc.names []) (.inl q))
  refine ⟨c, hc, ?_⟩
  show (JB h _).get? c = none
  rw [X9, if_pos]
  rcases g.cellOf (x := x) hc with ⟨hlt, _⟩ | ⟨hf, _⟩
  ·refine List.mem_append.mpr (.inr (.tail _ ?_))
   unfold Kd
   exact List.mem_map.mpr ⟨(x, c), List.mem_filter.mpr ⟨ZV hc, by simpa using hlt⟩, rfl⟩
  ·rw [q] at hf; cases hf
set_option tactic.hygienic true in
theorem CI.of_rel {ρ' : AEnv} (g : CG G cx sc csc ρ₁ S₁ h₁ wr C ρ₀) (ci : CI G cx sc csc S₁ h₁ wr C S h) (r : Rel G (W9 cx csc sc C wr S h) (Qp csc sc) ρ' S' h') (sub : ∀ b, S b → S' b) (dom : ∀ b ∈ wr, ∃ o, h'.get? b = some o) : CI G cx sc csc S₁ h₁ wr C S' h' where
 aft := {
  keep := fun b o hb e => by
   obtain ⟨sl, e₁, k₁⟩ := ci.aft.keep b o hb e
   have : (JB h (wr ++ C :: Kd csc cx.env C)).get? b = some { o with slots := sl } := by rw [X9, if_neg (g.notX e hb)]; exact e₁
   obtain ⟨sl', e₂, k₂⟩ := r.keep b _ this
   exact ⟨sl', e₂, fun hn => (k₂ hn).trans (k₁ hn)⟩
  dom := dom
  shape := ci.aft.shape
  sub := fun b q => sub b (ci.aft.sub b q)
  new := fun b q => by
   rcases r.sok b q with q | q
   ·exact ci.aft.new b q
   ·have q : (JB h (wr ++ C :: Kd csc cx.env C)).get? b = none := q
    rw [X9] at q
    split at q
    ·rename_i m
     rcases List.mem_append.mp m with m | m
     ·exact .inr (.inl m)
     ·exact .inr (.inr (g.xNew m))
    ·right; right
     cases q' : h₁.get? b with
     | none => rfl
     | some o => obtain ⟨o', e'⟩ := ci.aft.domAll q'; rw [q] at e'; cases e'
  sdom := r.sdom }
 base := r.base
 ns := r.ns
 cells := r.cells
 sloc := r.sloc
 scell := r.scell
 live := r.live
theorem CI.append {D : Addr} {oD oD' : Obj} {vs : Array Value} {n : Nat} (g : CG G cx sc csc ρ₁ S₁ h₁ wr C ρ₀) (ci : CI G cx sc csc S₁ h₁ wr C S h) (eD : h.get? D = some oD) (hd : oD.data = .seq vs n) (hD : h₁.get? D = none) (kk : Heap.SameBut D h h') (e' : h'.get? D = some oD') : CI G cx sc csc S₁ h₁ wr C S h' := by
 have dom : ∀ b o, h.get? b = some o → ∃ o', h'.get? b = some o' := fun b o e => by
  by_cases hb : b = D
  ·subst hb; exact ⟨_, e'⟩
  ·exact ⟨o, (kk.2 b hb).trans e⟩
 have hC : C ≠ D := by
  rintro rfl
  obtain ⟨m, o, es, ep, q, hd', _⟩ := ci.ns
  rw [eD] at q; cases q; rw [hd] at hd'; cases hd'
 have hcell : ∀ x c, (XH csc cx.env C).lookup x = some c → c ≠ D := fun x c q => by
  rintro rfl
  obtain ⟨v, o, q, hd'⟩ := ci.cells x _ q
  rw [eD] at q; cases q; rw [hd] at hd'; cases hd'
 refine { aft := { ci.aft with keep := fun b o hb e => ?_, dom := fun b hb => ?_, sdom := fun b q => ?_ }, base := fun b o q => (kk.2 b ?_).trans (ci.base b o q), ns := ?_, cells := fun x c q => ?_, sloc := ci.sloc, scell := ci.scell, live := fun x a hdx q => ?_ }
 ·obtain ⟨sl, q, k₁⟩ := ci.aft.keep b o hb e
  exact ⟨sl, (kk.2 b (by rintro rfl; rw [hD] at e; cases e)).trans q, k₁⟩
 ·obtain ⟨o, q⟩ := ci.aft.dom b hb
  exact dom b o q
 ·obtain ⟨o, q⟩ := ci.aft.sdom b q
  exact dom b o q
 ·rintro rfl
  rw [g.r.base _ _ q] at hD; cases hD
 ·obtain ⟨m, n⟩ := ci.ns
  exact ⟨m, n.sameBut kk hC⟩
 ·obtain ⟨v, n⟩ := ci.cells x c q
  exact ⟨v, n.sameBut kk (hcell x c q)⟩
 ·have : Var (Yx csc sc cx.env C) h x (.ref a) := by
   rcases q with ⟨a1, m₁, b, c⟩ | ⟨a1, c, b, d⟩
   ·obtain ⟨m₀, n₀⟩ := ci.ns
    exact .inl ⟨a1, m₀, n₀, by rw [(n₀.sameBut kk hC).agree b x]; exact c⟩
   ·obtain ⟨w₀, n₀⟩ := ci.cells x c b
    exact .inr ⟨a1, c, b, by rw [IsCell.inj d (n₀.sameBut kk (hcell x c b))]; exact n₀⟩
  obtain ⟨o, e⟩ := ci.live x a hdx this
  exact dom a o e
end
theorem V0 {prog : Program} {w : World} {A : Around} {R : Result → Shared → Prop} {s : Shared} {elt target iter : Expr} {ifs : List Expr} {scope : Scope} {pos : Pos} {it acc : Value} {env : Env} (I : Nat → Shared → Prop)
  (turn : ∀ n s, I n s → wpAny (model prog w) A (pyNext it) (fun r s₁ => match r with
   | none => R (.ok .next) s₁
   | some v => wpAny (model prog w) A (letOwnedTupleGo target it v) (fun _ s₁' => wpAny (model prog w) A (assign target env v) (fun _ s₂ =>
     wpAny (model prog w) A (forIn ifs true fun c r => if r = true then do let ok ← isTrue c env (eval c env); pure (ForInStep.yield ok) else pure (ForInStep.yield r)) (fun ok s₃ =>
      if ok = true then wpAny (model prog w) A (eval elt env) (fun x s₄ =>
       wpAny (model prog w) A (call (.builtin "list.append") [acc, x]) (fun _ s₅ => ∃ m, m < n ∧ I m s₅) (notedBy (model prog w) A env fun e s' => R (.error e) s') s₄) (notedBy (model prog w) A env fun e s' => R (.error e) s') s₃
      else ∃ m, m < n ∧ I m s₃) (notedBy (model prog w) A env fun e s' => R (.error e) s') s₂) (notedBy (model prog w) A env fun e s' => R (.error e) s') s₁') (notedBy (model prog w) A env fun e s' => R (.error e) s') s₁) (notedBy (model prog w) A env fun e s' => R (.error e) s') s)
  (n : Nat) (h : I n s) : codeAny (model prog w) A (.compLoop (.ListComp elt [⟨target, iter, ifs, 0⟩] scope pos) 0 it acc env) R s := by
 refine codeAny_loop rfl I (fun n s hI => ?_) n h
 show wpAny _ A ((compTurn (.ListComp elt [⟨target, iter, ifs, 0⟩] scope pos) 0 it acc env).onRaise (fun x => do noteFrame x env; theTreesLotGoes x)) _ _ s
 refine wpAny_noted ?_
 rw [compTurn_list]
 refine wpAny_bind (wpAny_standAt (wpAny_bind (wpAny_mono (turn n s hI) (fun r s₁ h₁ => ?_) fun _ _ h' => h')))
 cases r with
 | none => exact wpAny_pure h₁
 | some v =>
  refine wpAny_bind (wpAny_mono h₁ (fun _ s₁' h₁' => ?_) fun _ _ h' => h')
  refine wpAny_bind (wpAny_mono h₁' (fun _ s₂ h₂ => wpAny_bind (wpAny_mono h₂ (fun ok s₃ h₃ => ?_) fun _ _ h' => h')) fun _ _ h' => h')
  cases ok with
  | false => exact wpAny_pure ⟨rfl, h₃⟩
  | true =>
   exact wpAny_bind (wpAny_bind (wpAny_mono h₃ (fun x s₄ h₄ => wpAny_bind (wpAny_mono h₄ (fun _ s₅ h₅ => wpAny_pure (wpAny_pure ⟨rfl, h₅⟩)) fun _ _ h' => h')) fun _ _ h' => h'))
noncomputable def Oo (G : Gd) (k : Nat) (sc : Scope) (ifs : List Expr) (f : AEnv → Res Bool) : Prop :=
 ∀ cx, CxOk G cx sc k → ∀ ρ S s, Rel G cx sc ρ S s.heap → Qk G cx sc true (forIn ifs true fun c r => if r = true then do let ok ← isTrue c cx.env (eval c cx.env); pure (ForInStep.yield ok) else pure (ForInStep.yield r)) S s (fun _ _ a b => a = b) (f ρ)
noncomputable def Uj : AEnv → Res Bool := fun ρ => .ok true ρ
theorem YF {G : Gd} {k : Nat} {sc : Scope} : Oo G k sc [] Uj := fun _ _ _ _ _ r => Qk.pure r rfl
noncomputable def JA (b : D → AEnv → Option AEnv) (t : AEnv → Res Bool) (f : AEnv → Res T) (ρ₀ : AEnv) : List D → List D → Option (List D)
 | [], acc => some acc
 | d :: ds, acc => match b d ρ₀ with
  | none => none
  | some ρ₁ => match t ρ₁ with
   | .ok true ρ₂ => (match f ρ₂ with
    | .ok v _ => if acc.length ≤ 1000000 then JA b t f ρ₀ ds (acc ++ [v.val]) else none
    | _ => none)
   | .ok false _ => JA b t f ρ₀ ds acc
   | _ => none
noncomputable def JF (b : D → AEnv → Option AEnv) (t : AEnv → Res Bool) (f : AEnv → Res T) (ρ₀ : AEnv) : List D → List D → Option (List D ⊕ Addr)
 | [], acc => some (.inl acc)
 | d :: ds, acc => match b d ρ₀ with
  | none => none
  | some ρ₁ => match t ρ₁ with
   | .ok true ρ₂ => (match f ρ₂ with
    | .ok v _ => if acc.length ≤ 1000000 then JF b t f ρ₀ ds (acc ++ [v.val]) else none
    | .exc C _ => some (.inr C)
    | .stuck => none)
   | .ok false _ => JF b t f ρ₀ ds acc
   | _ => none
theorem Gv {b : D → AEnv → Option AEnv} {t : AEnv → Res Bool} {f : AEnv → Res T} {ρ₀ : AEnv} {ds : List D} : ∀ {acc out : List D}, JA b t f ρ₀ ds acc = some out → JF b t f ρ₀ ds acc = some (.inl out) := by
 induction ds with
 | nil => intro acc out h; cases h; rfl
 | cons d ds ih =>
  intro acc out h
  rw [JA] at h
  rw [JF]
  cases hb : b d ρ₀ with
  | none => rw [hb] at h; cases h
  | some ρ₁ =>
   rw [hb] at h
   simp only at h ⊢
   cases ht : t ρ₁ with
   | stuck => rw [ht] at h; cases h
   | exc C ρ => rw [ht] at h; cases h
   | ok c ρ₂ =>
    rw [ht] at h
    cases c with
    | false => exact ih h
    | true =>
     simp only at h ⊢
     cases hf : f ρ₂ with
     | stuck => rw [hf] at h; cases h
     | exc C ρ => rw [hf] at h; cases h
     | ok v ρ₃ =>
      rw [hf] at h
      obtain ⟨hl, h⟩ := ifs h
      simp only
      rw [if_pos hl]; exact ih h
theorem After.ext {X : List Addr} {S₀ S S' : Addr → Prop} {h₀ h h' : Heap} (k : After X S h S' h') (x : Ext S₀ h₀ S h) (new : ∀ b ∈ X, h₀.get? b = none) : Ext S₀ h₀ S' h' :=
 ⟨fun b q => k.sub b (x.sub b q), fun b o e q => by
  obtain ⟨sl, e₁, k₁⟩ := x.keep b o e q
  obtain ⟨sl', e₂, k₂⟩ := k.keep b _ (fun m => by rw [new b m] at e; cases e) e₁
  exact ⟨sl', e₂, fun hn => (k₂ hn).trans (k₁ hn)⟩, fun b o e => by
  obtain ⟨o', e'⟩ := x.dom b o e
  exact k.domAll e'⟩
theorem Fly.since {h₀ h h' : Heap} {e C : Addr} (q : Fly h h' e C) (dom : ∀ b o, h₀.get? b = some o → ∃ o', h.get? b = some o') : Fly h₀ h' e C := by
 have none : ∀ b, h.get? b = none → h₀.get? b = none := fun b hb => by
  cases q : h₀.get? b with
  | none => rfl
  | some o => obtain ⟨_, e⟩ := dom b o q; rw [hb] at e; cases e
 obtain ⟨n, oe, vs, a, b, b', c, d, k⟩ := q
 refine ⟨none _ n, oe, vs, a, b, b', c, d, k.imp id ?_⟩
 rintro ⟨T, oT, ts, k1, k2, k3, k4⟩
 exact ⟨T, oT, ts, k1, k2, none _ k3, k4⟩
inductive CInv (G : Gd) (cx : Cx) (sc csc : Scope) (S₁ : Addr → Prop) (h₁ : Heap) (wr : List Addr) (C L : Addr) (St : Nat → (Addr → Prop) → Heap → Prop) (cn : List D → List D → Option (List D ⊕ Addr)) (ds : List D) (out : List D ⊕ Addr) (s : Shared) : Nat → Shared → Prop
 | mk {i : Nat} {S' : Addr → Prop} {h' : Heap} {tk : Nat} {acc : List D} {vs : Array Value} {n : Nat} : i ≤ ds.length → CI G cx sc csc S₁ h₁ wr C S' h' → St i S' h' → h'.get? L = some { cls := .type "list", data := .seq vs n } → RVs S' h' vs.toList acc → ¬ S' L → cn (ds.drop i) acc = some out → CInv G cx sc csc S₁ h₁ wr C L St cn ds out s (ds.length + 1 - i) { s with heap := h', toks := tk }
section
variable {G : Gd} {cx : Cx} {sc csc : Scope} {ρ₁ ρ₀ : AEnv} {S₁ S : Addr → Prop} {h₁ : Heap} {wr : List Addr} {C L : Addr} {k : Nat}
set_option tactic.hygienic true in
theorem El {tg iter elt : Expr} {ifs : List Expr} {pos : Pos} {I : Addr} {St : Nat → (Addr → Prop) → Heap → Prop} {ds : List D} {out : List D ⊕ Addr} {xs : List Str} {b : D → AEnv → Option AEnv} {t : AEnv → Res Bool} {f : AEnv → Res T} {R : Result → Shared → Prop} {s : Shared} {n : Nat}
  (g : CG G cx sc csc ρ₁ S₁ h₁ wr C ρ₀) (ok : CxOk G cx sc k) (it : ItK G cx.A tg I wr St ds) (ha : KA G (Qp csc sc) tg xs b) (hxs : ∀ x ∈ xs, csc.names.lookup x = some .local ∨ csc.names.lookup x = some .cell)
  (ht : Oo G k (Qp csc sc) ifs t) (he : Sim G k (Qp csc sc) elt f) (ci : CI G cx sc csc S₁ h₁ wr C S s.heap) (eD : s.heap.get? L = some { cls := .type "list", data := .seq #[] n }) (hD : h₁.get? L = none) (hLC : L < C) (hS : ¬ S L) (st : St 0 S s.heap)
  (hni : ∀ v, cx.A.handled = some v → ∀ b ∈ wr, v ≠ .ref b) (hc : JF b t f ρ₀ ds [] = some out)
  (fin : ∀ ls S' h' tk, out = .inl ls → CI G cx sc csc S₁ h₁ wr C S' h' → XM S' h' L (.list ls) → ¬ S' L → R (.ok .next) { s with heap := h', toks := tk })
  (finE : ∀ D e S' h' tk, out = .inr D → CI G cx sc csc S₁ h₁ wr C S' h' → Fly h₁ h' e D → notedBy G.M cx.A (Yx csc sc cx.env C) (fun e s' => R (.error e) s') (.ref e) { s with heap := h', toks := tk }) :
  codeAny G.M cx.A (.compLoop (.ListComp elt [⟨tg, iter, ifs, 0⟩] csc pos) 0 (.ref I) (.ref L) (Yx csc sc cx.env C)) R s := by
 have hLX : L ∉ wr ++ C :: Kd csc cx.env C := fun m => by
  rcases List.mem_append.mp m with m | m
  ·obtain ⟨o, e, _⟩ := ci.aft.shape L m; rw [hD] at e; cases e
  ·rcases List.mem_cons.mp m with rfl | m
   ·exact absurd hLC (Nat.lt_irrefl _)
   ·unfold Kd at m
    obtain ⟨p, hp, rfl⟩ := List.mem_map.mp m
    have := (List.mem_filter.mp hp).2
    simp only [decide_eq_true_eq] at this
    exact absurd hLC (Nat.not_lt.mpr (Nat.le_of_lt this))
 have hLw : L ∉ wr := fun m => hLX (List.mem_append.mpr (.inl m))
 obtain ⟨Inv, hI, hC⟩ : ∃ Inv : Nat → Shared → Prop, (∀ m s', CInv G cx sc csc S₁ h₁ wr C L St (JF b t f ρ₀) ds out s m s' → Inv m s') ∧ ∀ m s', Inv m s' → CInv G cx sc csc S₁ h₁ wr C L St (JF b t f ρ₀) ds out s m s' := ⟨_, fun _ _ q => q, fun _ _ q => q⟩
 refine V0 Inv ?_ (ds.length + 1) (hI _ _ (.mk (i := 0) (tk := s.toks) (acc := []) (vs := #[]) (Nat.zero_le _) ci st eD .nil hS (by rw [List.drop_zero]; exact hc)))
 generalize (notedBy G.M cx.A (Yx csc sc cx.env C) fun e s' => R (.error e) s') = EN at finE ⊢
 intro m s' hinv
 cases hC m s' hinv with
 | mk hi ci' st' eL racc hSL hcn =>
 rename_i i S' h' tk acc vs n'
 have r' := ci'.rel g
 have new' : ∀ b ∈ wr, (W9 cx csc sc C wr S' h').h₀.get? b = none ∧ G.B.get? b = none := fun b hb => ⟨by
  show (JB h' _).get? b = none
  rw [X9, if_pos (List.mem_append.mpr (.inl hb))], (g.new b hb).2⟩
 by_cases hlt : i < ds.length
 ·have hd : ds[i]? = some ds[i] := List.getElem?_eq_getElem hlt
  rw [J9 hd, JF] at hcn
  split at hcn
  ·cases hcn
  rename_i ρ₂ hb
  refine wpAny_mono (it.item i S' { s with heap := h', toks := tk } ds[i] (fun v s₂ => wpAny G.M cx.A (assign tg (Yx csc sc cx.env C) v) (fun _ s₂ =>
     wpAny G.M cx.A (forIn ifs true fun c r => if r = true then do let ok ← isTrue c (Yx csc sc cx.env C) (eval c (Yx csc sc cx.env C)); pure (ForInStep.yield ok) else pure (ForInStep.yield r)) (fun ok s₃ =>
      if ok = true then wpAny G.M cx.A (eval elt (Yx csc sc cx.env C)) (fun x s₄ =>
       wpAny G.M cx.A (call (.builtin "list.append") [.ref L, x]) (fun _ s₅ => ∃ m, m < ds.length + 1 - i ∧ Inv m s₅) EN s₄) EN s₃
      else ∃ m, m < ds.length + 1 - i ∧ Inv m s₃) EN s₂) EN s₂) _ EN hd st' fun v h₂ t₂ rv st₂ kb => ?_) (fun rr s₁ hh => by
   obtain ⟨v, rfl, hh⟩ := hh
   exact hh) fun _ _ e => e
  obtain ⟨r₂, v₂⟩ := r'.aside (it.shape i S' h' st') new' kb
  have ok' : CxOk G (W9 cx csc sc C wr S' h') (Qp csc sc) k := CI.ok g ci' ok
  refine ha (W9 cx csc sc C wr S' h') k ok' (CI.fn g ci') (fun x hx => CI.own g (hxs x hx)) ρ₀ S' { s with heap := h₂, toks := t₂ } v ds[i] ρ₂ r₂ rv hb _ _ ?_
  intro _ h₃ t₃ S₃ r₃ _ x₃ _
  have st₃ := it.ext _ _ _ _ _ st₂ x₃
  have racc₃ : RVs S₃ h₃ vs.toList acc := (racc.aside (it.shape i S' h' st') kb).ext x₃
  refine ht (W9 cx csc sc C wr S' h') ok' ρ₂ S₃ { s with heap := h₃, toks := t₃ } r₃ _ _ ?_
  have done : ∀ {ρ' S'' h''}, Rel G (W9 cx csc sc C wr S' h') (Qp csc sc) ρ' S'' h'' → (∀ b, S' b → S'' b) → St (i + 1) S'' h'' → CI G cx sc csc S₁ h₁ wr C S'' h'' ∧ h''.get? L = some { cls := .type "list", data := .seq vs n' } ∧ ¬ S'' L := fun {ρ' S'' h''} r sub st => by
   refine ⟨CI.of_rel g ci' r sub fun b hb => let ⟨o, e, _⟩ := it.shape _ _ _ st b hb; ⟨o, e⟩, ?_, fun q => ?_⟩
   ·have : (JB h' (wr ++ C :: Kd csc cx.env C)).get? L = some { cls := .type "list", data := .seq vs n' } := by rw [X9, if_neg hLX]; exact eL
    exact r.keep.exact this (.seq rfl)
   ·rcases r.sok L q with q | q
    ·exact hSL q
    ·have q : (JB h' (wr ++ C :: Kd csc cx.env C)).get? L = none := q
     rw [X9, if_neg hLX, eL] at q; cases q
  split at hcn
  ·rename_i ρ₃ htv
   rw [htv]
   intro a h₄ t₄ S₄ r₄ j₄ x₄ _
   subst j₄
   simp only [if_true]
   have st₄ := it.ext _ _ _ _ _ st₃ x₄
   split at hcn
   ·rename_i v' ρ₄ hfv
    split at hcn
    ·rename_i hlen
     refine (he (W9 cx csc sc C wr S' h') ok' ρ₃ S₄ { s with heap := h₄, toks := t₄ } r₄).shared _ _ ?_
     rw [hfv]
     intro y h₅ t₅ S₅ r₅ j₅ x₅ _
     have st₅ := it.ext _ _ _ _ _ st₄ x₅
     have racc₅ : RVs S₅ h₅ vs.toList acc := (racc₃.ext x₄).ext x₅
     obtain ⟨ci₅, eL₅, hS₅⟩ := done r₅ (fun b q => x₅.sub b (x₄.sub b (x₃.sub b q))) st₅
     have hvl : vs.size = acc.length := by rw [← racc.length]; simp
     refine call_meets F.slot_list_append ⟨_, eL₅, rfl⟩ F.entry_list_append (F.args_list_append_2 _ _) (list_append L vs n' y (by rw [hvl, sizeLine_eq]; exact omB hlen)) ⟨eL₅, ?_⟩
     obtain ⟨m', hm'⟩ := Y7 (fun xs => xs.push y) eL₅
     have sb : Heap.SameBut L h₅ (h₅.update L (Obj.mapSeq fun xs => xs.push y)) := Heap.SameBut.update ..
     have x₆ : Ext S₅ h₅ S₅ (h₅.update L (Obj.mapSeq fun xs => xs.push y)) := RV.but eL₅ Ky hS₅ (fun b o hb eb => (sb.2 b hb).trans eb) ⟨_, hm'⟩
     refine ⟨ds.length + 1 - (i + 1), by omega, hI _ _ (.mk (i := i + 1) (tk := t₅) (acc := acc ++ [v'.val]) (vs := vs.push y) hlt (CI.append g ci₅ eL₅ rfl hD sb hm') (it.ext _ _ _ _ _ st₅ x₆) hm' ?_ hS₅ hcn)⟩
     rw [Array.toList_push]
     exact RVs.append (.cons (RV.ext x₆ j₅) .nil) (racc₅.ext x₆)
    ·cases hcn
   ·rename_i D ρ₄ hfv
    cases hcn
    refine (he (W9 cx csc sc C wr S' h') ok' ρ₃ S₄ { s with heap := h₄, toks := t₄ } r₄).shared _ _ ?_
    rw [hfv]
    intro e h₅ t₅ S₅ r₅ f₅ x₅
    have st₅ := it.ext _ _ _ _ _ st₄ x₅
    obtain ⟨ci₅, _, _⟩ := done r₅ (fun b q => x₅.sub b (x₄.sub b (x₃.sub b q))) st₅
    obtain ⟨ci₄, _, _⟩ := done r₄ (fun b q => x₄.sub b (x₃.sub b q)) st₄
    exact finE D e S₅ h₅ t₅ rfl ci₅ (f₅.since fun b o q => ci₄.aft.domAll q)
   ·cases hcn
  ·rename_i ρ₃ htv
   rw [htv]
   intro a h₄ t₄ S₄ r₄ j₄ x₄ _
   subst j₄
   simp only [Bool.false_eq_true, if_false]
   have st₄ := it.ext _ _ _ _ _ st₃ x₄
   obtain ⟨ci₄, eL₄, hS₄⟩ := done r₄ (fun b q => x₄.sub b (x₃.sub b q)) st₄
   exact ⟨ds.length + 1 - (i + 1), by lia, hI _ _ (.mk (i := i + 1) (tk := t₄) hlt ci₄ st₄ eL₄ (racc₃.ext x₄) hS₄ hcn)⟩
  ·cases hcn
 ·have hie : i = ds.length := by exact Nat.le_antisymm hi (Nat.le_of_not_lt hlt)
  subst hie
  rw [List.drop_length, JF] at hcn
  cases hcn
  refine it.done S' { s with heap := h', toks := tk } _ _ st' r'.hOk hni fun h₂ t₂ kb => ?_
  have sh := it.shape _ S' h' st'
  obtain ⟨r₂, v₂⟩ := r'.aside sh new' kb
  refine fin acc S' h₂ t₂ rfl (CI.of_rel g ci' r₂ (fun _ q => q) kb.2) ⟨vs, n', kb.1 L _ hLw eL, racc.aside sh kb⟩ hSL
end
set_option tactic.hygienic true in
theorem Y0 : ∀ {l : List (Str × NameKind)} {h : Heap} {acc : List (Str × Addr)} {x : Str} {c : Addr}, (cellsFrom h.objs.size l acc).lookup x = some c → (∃ c', acc.lookup x = some c' ∧ c' = c) ∨ ((pushCells h l).IsCell c none ∧ h.objs.size ≤ c)
 | [], _, _, _, _, q => .inl ⟨_, q, rfl⟩
 | (y, k) :: r, h, acc, x, c, q => by
  unfold cellsFrom at q
  unfold pushCells
  split at q
  ·rename_i hk
   rw [if_pos hk]
   rw [show h.objs.size + 1 = (h.push { cls := .type "cell", data := .cell none }).objs.size from (Heap.size_push ..).symm] at q
   rcases Y0 q with ⟨c', q', rfl⟩ | ⟨q', hl⟩
   ·rw [List.lookup_cons] at q'
    cases hx : x == y with
    | true =>
     rw [hx] at q'; cases q'
     exact .inr ⟨⟨_, pushCells_keeps _ _ _ _ (Heap.get?_push_size _ rfl), rfl⟩, Nat.le_refl _⟩
    | false => rw [hx] at q'; exact .inl ⟨_, q', rfl⟩
   ·rw [Heap.size_push] at hl
    exact .inr ⟨q', Nat.le_of_succ_le hl⟩
  ·rename_i hk
   rw [if_neg hk]
   exact Y0 q
section
variable {G : Gd} {cx : Cx} {sc csc : Scope} {ρ₁ ρ₀ : AEnv} {S₁ : Addr → Prop} {h₁ : Heap} {wr : List Addr} {k : Nat}
noncomputable def Y4 (h₁ : Heap) (csc : Scope) : Heap := pushCells ((h₁.push { cls := .type "list", data := .seq ([] : List Value).toArray }).push { cls := .type "dict", data := .dict #[] }) csc.names
theorem Q7 {b : Addr} {o : Obj} (e : h₁.get? b = some o) : (Y4 h₁ csc).get? b = some o := pushCells_keeps _ _ _ _ (Heap.get?_push_of_some _ (Heap.get?_push_of_some _ e))
theorem CI.init (g : CG G cx sc csc ρ₁ S₁ h₁ wr (h₁.objs.size + 1) ρ₀) (sh : ∀ b ∈ wr, ∃ o, h₁.get? b = some o ∧ XJ o) : CI G cx sc csc S₁ h₁ wr (h₁.objs.size + 1) S₁ (Y4 h₁ csc) := by
 have hs : ((h₁.push { cls := .type "list", data := .seq ([] : List Value).toArray }).push { cls := .type "dict", data := .dict #[] }).objs.size = h₁.objs.size + 1 + 1 := by rw [Heap.size_push, Heap.size_push]
 have ns : (Y4 h₁ csc).Ns (h₁.objs.size + 1) fun _ => none := by
  have := (Heap.Ns.new (h₁.push { cls := .type "list", data := .seq ([] : List Value).toArray }) (.type "dict")).keeps (pushCells_keeps csc.names _)
  rw [Heap.size_push] at this
  exact this
 have cell : ∀ x c, (XH csc cx.env (h₁.objs.size + 1)).lookup x = some c → (csc.names.lookup x = some .free ∧ cx.env.cells.lookup x = some c) ∨ ((Y4 h₁ csc).IsCell c none ∧ h₁.objs.size + 2 ≤ c) := fun x c q => by
  rcases g.cellOf q with ⟨hc, _⟩ | ⟨a, b, _⟩
  ·unfold XH at q
   rw [← hs] at q
   rcases Y0 q with ⟨c', q', rfl⟩ | ⟨q', hl⟩
   ·rcases X2 q' with q' | q'
    ·obtain ⟨v, o, e, _⟩ := g.r.cells x c' q'
     exact absurd (Heap.lt_size e) (Nat.not_lt.mpr (Nat.le_of_lt (Nat.lt_of_succ_lt hc)))
    ·cases q'
   ·rw [hs] at hl; exact .inr ⟨q', hl⟩
  ·exact .inl ⟨a, b⟩
 refine { aft := ⟨fun b o _ e => ⟨o.slots, Q7 e, fun _ => rfl⟩, fun b hb => let ⟨o, e, _⟩ := sh b hb; ⟨o, Q7 e⟩, sh, fun _ q => q, fun b q => .inl q, fun b q => let ⟨o, e⟩ := g.r.sdom b q; ⟨o, Q7 e⟩⟩, base := fun b o e => Q7 (g.r.base b o e), ns := ⟨_, ns⟩, cells := fun x c q => ?_, sloc := fun q => ?_, scell := fun x c q q' => ?_, live := fun x a hd q => ?_ }
 ·rcases cell x c q with ⟨_, q⟩ | ⟨q, _⟩
  ·obtain ⟨v, o, e, hd⟩ := g.r.cells x c q
   exact ⟨v, o, Q7 e, hd⟩
  ·exact ⟨_, q⟩
 ·obtain ⟨o, e⟩ := g.r.sdom _ q
  exact absurd (Heap.lt_size e) (Nat.not_lt.mpr (Nat.le_succ _))
 ·rcases cell x c q with ⟨_, q⟩ | ⟨_, hl⟩
  ·exact g.r.scell x c q q'
  ·obtain ⟨o, e⟩ := g.r.sdom _ q'
   exact absurd (Heap.lt_size e) (Nat.not_lt.mpr (Nat.le_of_succ_le (Nat.le_of_succ_le hl)))
 ·rcases q with ⟨a1, m, n, e⟩ | ⟨a1, c, q, n⟩
  ·have := ns.agree n x; rw [e] at this; cases this
  ·rcases cell x c q with ⟨hf, hl⟩ | ⟨q', _⟩
   ·obtain ⟨v, n₀⟩ := g.r.cells x c hl
    have n₁ : (Y4 h₁ csc).IsCell c v := n₀.keeps fun b o e => Q7 e
    cases IsCell.inj n n₁
    obtain ⟨_, hk⟩ := g.free (ZV hf)
    have hkk : cx.env.kindOf x = sc.names.lookup x := by unfold Env.kindOf; rw [g.hsc]
    obtain ⟨o, e⟩ := g.r.live x a hd (.inr ⟨by rw [hkk]; exact hk, c, hl, n₀⟩)
    exact ⟨o, Q7 e⟩
   ·cases IsCell.inj n q'
end
noncomputable def HE (z : Option (List D ⊕ Addr)) (ρ₁ : AEnv) : Res T := match z with
 | some (.inl out) => .ok (.ow true (.list out)) ρ₁
 | some (.inr C) => .exc C ρ₁
 | none => .stuck
noncomputable def Wd (sc csc : Scope) (src : AEnv → Res (List D)) (b : D → AEnv → Option AEnv) (t : AEnv → Res Bool) (f : AEnv → Res T) : AEnv → Res T := fun ρ => match KI sc csc ρ (Qf (Qp csc sc)) with
 | none => .stuck
 | some _ => match src ρ with
  | .ok ds ρ₁ => (match KI sc csc ρ₁ (Qf (Qp csc sc)) with
   | some ρ₀ => HE (JF b t f ρ₀ ds []) ρ₁
   | none => .stuck)
  | _ => .stuck
set_option tactic.hygienic true in
theorem Fo {sc csc : Scope} {src : AEnv → Res (List D)} {b : D → AEnv → Option AEnv} {t : AEnv → Res Bool} {f : AEnv → Res T} {ρ : AEnv} (h : Wd sc csc src b t f ρ ≠ .stuck) :
  ∃ ρ' ds ρ₁ ρ₀ z, KI sc csc ρ (Qf (Qp csc sc)) = some ρ' ∧ src ρ = .ok ds ρ₁ ∧ KI sc csc ρ₁ (Qf (Qp csc sc)) = some ρ₀ ∧ JF b t f ρ₀ ds [] = some z ∧ Wd sc csc src b t f ρ = HE (some z) ρ₁ := by
 unfold Wd at h ⊢
 split at h
 ·exact absurd rfl h
 ·rename_i ρ' h1
  split at h
  ·rename_i ds ρ₁ h2
   split at h
   ·rename_i ρ₀ h3
    cases h4 : JF b t f ρ₀ ds [] with
    | none => rw [h4] at h; exact absurd rfl h
    | some z => exact ⟨ρ', ds, ρ₁, ρ₀, z, h1, h2, h3, h4, rfl⟩
   ·exact absurd rfl h
  ·exact absurd rfl h
theorem HB {G : Gd} {cx : Cx} {sc : Scope} {ρ : AEnv} {S : Addr → Prop} {i : Nat} {x : Str} {v : Value} {t : T} {s : Shared} {E : Value → Shared → Prop} {Q : Unit → Shared → Prop} (ok : CxOk G cx sc 0) (fn : FnCx G cx) (r : Rel G cx sc ρ S s.heap) (hx : (Qf sc)[i]? = some x) (hk : sc.names.lookup x = some .local) (hcl : X3 x = false ∨ ∃ d, t = .sh d) (tv : Yp cx S s.heap v t)
  (hQ : ∀ h' tk, Rel G cx sc (ρ.set i (some t)) S h' → Ext S s.heap S h' → Heap.SameBut cx.env.locals s.heap h' → (∀ y w, y ≠ x → Var cx.env h' y w → Var cx.env s.heap y w) → Q () { s with heap := h', toks := tk }) : wpAny G.M cx.A (storeName cx.env x v) Q E s := by
 have hkf : cx.env.scope.kind = .function := by rw [ok.hsc]; exact ok.hk
 have kd : ∀ y, cx.env.kindOf y = sc.names.lookup y := fun y => by unfold Env.kindOf; rw [ok.hsc]
 obtain ⟨m, hm⟩ := r.ns
 have hm0 := hm
 obtain ⟨oL, es, ep, eL, dL, _⟩ := hm0
 refine wpAny_storeName_local ((kd x).trans hk) hm (fun h' n' k => ?_) (by rw [hkf]; rfl)
 have n'' := n'
 obtain ⟨oL', es', ep', eL', dL', _⟩ := n''
 have cellsame : ∀ y c, cx.env.cells.lookup y = some c → ∀ w, s.heap.IsCell c w → h'.IsCell c w := fun y c q w n => n.sameBut k (fn.loc y c q)
 have vx : Var cx.env h' x v := .inl ⟨(kd x).trans hk, _, n', by simp⟩
 have hf : ∀ y w, y ≠ x → Var cx.env h' y w → Var cx.env s.heap y w := fun y w hy q => by
  rcases q with ⟨a, m₁, b, c⟩ | ⟨a, c, b, d⟩
  ·refine .inl ⟨a, m, hm, ?_⟩
   have := b.agree n' y
   rw [if_neg hy] at this
   rw [← this]; exact c
  ·obtain ⟨w₀, n₀⟩ := r.cells y c b
   exact .inr ⟨a, c, b, by rw [IsCell.inj d (cellsame y c b _ n₀)]; exact n₀⟩
 obtain ⟨r', x'⟩ := r.store (loc := cx.env.locals) (i := i) (x := x) (v := v) (t := t) fn.bh ok.nodup hx eL (by rintro (⟨_, vs, n, q⟩ | ⟨vs, q⟩) <;> (rw [dL] at q; cases q)) (fun vs n q => by rw [dL] at q; cases q) r.sloc fn.lnew (.inl rfl) k
  ⟨oL', eL', fun _ => ⟨es', ep', dL'⟩⟩ ⟨_, n'⟩ (fun y c q => let ⟨w, n⟩ := r.cells y c q; ⟨w, cellsame y c q w n⟩) vx
  (fun y w hy q => by
   rcases q with ⟨a, m₁, b, c⟩ | ⟨a, c, b, d⟩
   ·refine .inl ⟨a, _, n', ?_⟩
    rw [if_neg hy, ← b.agree hm y]; exact c
   ·exact .inr ⟨a, c, b, cellsame y c b _ d⟩)
  hf hcl tv.st
 exact hQ h' _ r' x' k hf
theorem Rel.butDict {G : Gd} {cx : Cx} {sc : Scope} {ρ : AEnv} {S : Addr → Prop} {h h' : Heap} {C : Addr} {oC : Obj} {es : Array DictEntry} {ep : Nat} (r : Rel G cx sc ρ S h) (e : h.get? C = some oC) (hd : oC.data = .dict es ep) (hS : ¬ S C) (hl : C ≠ cx.env.locals) (h0 : cx.h₀.get? C = none) (hB : G.B.get? C = none) (hff : ∀ env ∈ cx.fs, env.frame ≠ some C) (hv : ∀ (j : Nat) (y : Str) (m : Bool) (ks : List (List Int)) (ds : List D), (Qf sc)[j]? = some y → ρ[j]? = some (some (.ow m (.dict ks ds))) → ¬ Var cx.env h y (.ref C)) (k : Heap.SameBut C h h') (e' : ∃ o, h'.get? C = some o) :
  Rel G cx sc ρ S h' ∧ Ext S h S h' ∧ Qq cx.env h h' ∧ (∀ y w, Var cx.env h' y w → Var cx.env h y w) := by
 have hi : ¬ Imm oC := by rintro (⟨_, vs, n, q⟩ | ⟨vs, q⟩) <;> (rw [hd] at q; cases q)
 have x' : Ext S h S h' := RV.but e hi hS (fun b o hb eb => (k.2 b hb).trans eb) e'
 have nsame : ∀ m, h.Ns cx.env.locals m → h'.Ns cx.env.locals m := fun m n => n.sameBut k (Ne.symm hl)
 have cne : ∀ y c, cx.env.cells.lookup y = some c → c ≠ C := fun y c q => by
  rintro rfl
  obtain ⟨v, o, e'', hd'⟩ := r.cells y _ q
  rw [e] at e''; cases e''; rw [hd] at hd'; cases hd'
 have csame : ∀ y c, cx.env.cells.lookup y = some c → ∀ w, h.IsCell c w → h'.IsCell c w := fun y c q w n => n.sameBut k (cne y c q)
 have same : Qq cx.env h h' := fun y w q => by
  rcases q with ⟨a, m₁, b, c⟩ | ⟨a, c, b, d⟩
  ·exact .inl ⟨a, m₁, nsame m₁ b, c⟩
  ·exact .inr ⟨a, c, b, csame y c b _ d⟩
 have hf : ∀ y w, Var cx.env h' y w → Var cx.env h y w := fun y w q => by
  rcases q with ⟨a, m₁, b, c⟩ | ⟨a, c, b, d⟩
  ·obtain ⟨m₀, n₀⟩ := r.ns
   exact .inl ⟨a, m₀, n₀, by rw [(nsame m₀ n₀).agree b y]; exact c⟩
  ·obtain ⟨w₀, n₀⟩ := r.cells y c b
   exact .inr ⟨a, c, b, by rw [IsCell.inj d (csame y c b _ n₀)]; exact n₀⟩
 refine ⟨⟨fun b o q => (k.2 b (by rintro rfl; rw [hB] at q; cases q)).trans (r.base b o q), fun b o q => ?_, fun env he => ?_, let ⟨m, n⟩ := r.ns; ⟨m, nsame m n⟩, fun y c q => let ⟨w, n⟩ := r.cells y c q; ⟨w, csame y c q w n⟩, fun b q => let ⟨o, eo⟩ := r.sdom b q; x'.dom b o eo, r.sok, r.sloc, r.scell, fun y b hdy q => let ⟨o, eo⟩ := r.live y b hdy (hf y _ q); x'.dom b o eo, r.clean, fun v q => let ⟨C, e⟩ := r.hok v q; ⟨C, e.ext x'⟩, fun j y u hy hu => ?_, fun j l y z m m' d d' u hy hz hj hl a b => r.inj j l y z m m' d d' u hy hz hj hl (hf y _ a) (hf z _ b), r.dok.back hf⟩, x', same, hf⟩
 ·obtain ⟨sl, q₁, k₁⟩ := r.keep b o q
  exact ⟨sl, (k.2 b (by rintro rfl; rw [h0] at q; cases q)).trans q₁, k₁⟩
 ·obtain ⟨p, L, o, b, c, d, es, n, q⟩ := r.ff env he
  exact ⟨p, L, o, b, c, (k.2 L (by rintro rfl; exact hff env he b)).trans d, es, n, q⟩
 ·obtain ⟨w, hw', tw⟩ := r.vars j y u hy hu
  refine ⟨w, same y w hw', ?_⟩
  cases u with
  | sh d => exact RV.ext x' tw
  | ow m d =>
   obtain ⟨b, rfl, n1, ow, n2⟩ := tw
   refine ⟨b, rfl, n1, ow.ext x' fun o eo => ⟨o.slots, (k.2 b ?_).trans eo, fun _ => rfl⟩, n2⟩
   rintro rfl
   rcases ow.cases with ow | ⟨ks, ds, rfl, _⟩
   ·obtain ⟨o', ho', _, vs, n, hd'⟩ := ow.cls
    rw [e] at ho'; cases ho'; rw [hd] at hd'; cases hd'
   ·exact hv j y m ks ds hy hu hw'
noncomputable def Fj (M : Model) (A : Around) (E : Value → Shared → Prop) (use : Option (Value → Sem Unit)) (Q : Value → Shared → Prop) (acc : Value) (C : Addr) (r : Result) (s' : Shared) : Prop := match r, use with
 | .ok _, none => ∃ m, s'.heap.Ns C m ∧ ∀ h' m', h'.Ns C m' → Heap.SameBut C s'.heap h' → Q acc { s' with heap := h' }
 | .ok _, some u => wpAny M A (u acc) (fun _ s'' => ∃ m, s''.heap.Ns C m ∧ ∀ h' m', h'.Ns C m' → Heap.SameBut C s''.heap h' → Q .none { s'' with heap := h' }) E s'
 | .error x, _ => ∃ m, s'.heap.Ns C m ∧ ∀ h' m', h'.Ns C m' → Heap.SameBut C s'.heap h' → ∀ ce : Env, wpAny M A (PySem.passOn (α := Value) "comprehension.variables-let-go" x ce) Q E { s' with heap := h' }
theorem WY {M : Model} {A : Around} {E : Value → Shared → Prop} {s : Shared} {env : Env} {e : Expr} {scope : Scope} {pos : Pos} {newAcc first : Sem Value} {g : Comprehension} {gs : List Comprehension} {cl : List (Str × Addr)} {use : Option (Value → Sem Unit)} {Q : Value → Shared → Prop}
  (hcl : clausesOf e = g :: gs) (hs : ∀ x, foldedSetIterable g.iter env x = pure x) (hclos : closureFor scope env = pure cl) (hkind : scope.kind = .function) (hnames : ∀ x ∈ scope.names, x.2 = .local → scope.names.lookup x.1 = some .local)
  (h : wpAny M A first (fun x s₁ => wpAny M A (pyIter x) (fun it s₂ => wpAny M A newAcc (fun acc s₃ => wpAny M A (newFunctionEnv scope env.globals cl [] env.qual none .none (some env)) (fun cenv s₄ =>
   codeAny M A (.compStart e 0 it acc { cenv with scope := relabel scope env }) (Fj M A E use Q acc cenv.locals) s₄) E s₃) E s₂) E s₁) E s) :
  wpAny M A (comprehension e scope env pos newAcc false first use) Q E s := by
 unfold comprehension
 rw [hclos, hcl]
 refine wpAny_bind (wpAny_mono h (fun x s₁ h₁ => wpAny_bind (wpAny_standAt (wpAny_bind (wpAny_of_eq (hs x) (wpAny_bind (wpAny_holding (wpAny_mono h₁ (fun it s₂ h₂ => wpAny_standIf (wpAny_bind (wpAny_mono h₂ (fun acc s₃ h₃ => wpAny_bind (wpAny_pure (wpAny_bind (wpAny_mono h₃ (fun cenv s₄ h₄ => ?_) fun _ _ z => z)))) fun _ _ z => z))) fun _ _ z => z))))))) fun _ _ z => z)
 dsimp only
 have loc : ∀ x : Str × NameKind, x ∈ scope.names → x.2 = .local → Env.kindOf { cenv with scope := relabel scope env } x.1 = some .local := fun x hx hl => lookup_relabel_local (hnames x hx hl)
 have v1 : ∀ x ∈ (scope.names.filter fun x => (x.2 == .local || x.2 == .cell) && x.1 != (".0" : Str)).reverse, x.2 = .local → Env.kindOf { cenv with scope := relabel scope env } x.1 = some .local := fun x hx => loc x (List.mem_filter.mp (List.mem_reverse.mp hx)).1
 refine wpAny_holding (wpAny_bind (wpAny_attempt (wpAny_holding (wpAny_run (codeAny_mono h₄ fun r s' hr => ?_)))))
 cases r with
 | error x =>
  cases use <;>
  ·obtain ⟨m, hn, hr⟩ := hr
   exact wpAny_bind (wpAny_holding (wpAny_comp_letGo (cenv := { cenv with scope := relabel scope env }) hkind _ s' m v1 hn fun h' m' hn' hs' => hr h' m' hn' hs' _))
 | ok f =>
  cases use with
  | none =>
   obtain ⟨m, hn, hr⟩ := hr
   exact wpAny_bind (wpAny_holding (wpAny_comp_letGo (cenv := { cenv with scope := relabel scope env }) hkind _ s' m v1 hn fun h' m' hn' hs' => wpAny_pure (hr h' m' hn' hs')))
  | some u =>
   refine wpAny_bind (wpAny_rule (wpAny_bind (wpAny_holding (wpAny_mono hr (fun _ s'' hr' => ?_) fun _ _ z => z))))
   obtain ⟨m, hn, hr'⟩ := hr'
   refine wpAny_bind (wpAny_comp_letGo (cenv := { cenv with scope := relabel scope env }) hkind _ s'' m (fun x hx => ?_) hn fun h' m' hn' hs' => wpAny_pure (hr' h' m' hn' hs'))
   rcases List.mem_append.mp hx with q | q
   ·exact v1 x (List.mem_of_mem_drop q)
   ·exact v1 x (List.mem_of_mem_take q)
theorem After.varBack {G : Gd} {cx : Cx} {sc : Scope} {ρ : AEnv} {X : List Addr} {S S' : Addr → Prop} {h h' : Heap} (k : After X S h S' h') (r : Rel G cx sc ρ S h) {y : Str} {w : Value} (q : Var cx.env h' y w) : Var cx.env h y w := by
 rcases q with ⟨a, m₁, b, c⟩ | ⟨a, c, b, d⟩
 ·obtain ⟨m₀, n₀⟩ := r.ns
  exact .inl ⟨a, m₀, n₀, by rw [(k.ns n₀).agree b y]; exact c⟩
 ·obtain ⟨w₀, n₀⟩ := r.cells y c b
  exact .inr ⟨a, c, b, by rw [IsCell.inj d (k.cell n₀)]; exact n₀⟩
theorem Rel.varBackE {G : Gd} {cx : Cx} {sc : Scope} {ρ ρ₀ : AEnv} {S S₀ : Addr → Prop} {h g h' : Heap} {e D : Addr} (r : Rel G cx sc ρ S g) (k : KpE G.B h e g h') (f : Fly h g e D) (r₀ : Rel G cx sc ρ₀ S₀ h) {y : Str} {w : Value} (q : Var cx.env h' y w) : Var cx.env g y w := by
 rcases q with ⟨a, m₁, b, c⟩ | ⟨a, c, b, d⟩
 ·obtain ⟨m₀, n₀⟩ := r.ns
  obtain ⟨_, o, _, _, e0, _⟩ := r₀.ns
  exact .inl ⟨a, m₀, n₀, by rw [(k.ns f ⟨o, e0⟩ n₀).agree b y]; exact c⟩
 ·obtain ⟨w₀, n₀⟩ := r.cells y c b
  obtain ⟨_, o, e0, _⟩ := r₀.cells y c b
  exact .inr ⟨a, c, b, by rw [IsCell.inj d (k.cell f ⟨o, e0⟩ n₀)]; exact n₀⟩
section
variable {G : Gd} {k : Nat} {sc csc : Scope}
theorem Vv {cx : Cx} {ρ : AEnv} {S : Addr → Prop} {s : Shared} {tg iter elt : Expr} {ifs : List Expr} {pos p : Pos} {xs : List Str} {src : AEnv → Res (List D)} {b : D → AEnv → Option AEnv} {t : AEnv → Res Bool} {f : AEnv → Res T} {use : Option (Value → Sem Unit)} {Q : Value → Shared → Prop} {E : Value → Shared → Prop}
  (hi : KF G k sc tg iter src) (ha : KA G (Qp csc sc) tg xs b) (hxs : ∀ x ∈ xs, csc.names.lookup x = some .local ∨ csc.names.lookup x = some .cell) (ht : Oo G k (Qp csc sc) ifs t) (he : Sim G k (Qp csc sc) elt f) (hok : Jw sc csc = true)
  (hs : ∀ env x, foldedSetIterable iter env x = pure x) (ok : CxOk G cx sc k) (r : Rel G cx sc ρ S s.heap) (nst : Wd sc csc src b t f ρ ≠ .stuck)
  (fin : ∀ out ρ₁ L C S' h' tk, Wd sc csc src b t f ρ = .ok (.ow true (.list out)) ρ₁ → Rel G cx sc ρ₁ S' h' → Ext S s.heap S' h' → Qq cx.env s.heap h' → Fresh cx S' h' (.ref L) (.list out) → (∃ m, h'.Ns C m) → ¬ S' C → C ≠ L → C ≠ cx.env.locals → cx.h₀.get? C = none → G.B.get? C = none → s.heap.get? C = none → (∀ env ∈ cx.fs, env.frame ≠ some C) → (∀ (j : Nat) (y : Str) (m : Bool) (ks : List (List Int)) (ds : List D), (Qf sc)[j]? = some y → ρ₁[j]? = some (some (.ow m (.dict ks ds))) → ¬ Var cx.env h' y (.ref C)) →
   Fj G.M cx.A E use Q (.ref L) C (.ok .next) { s with heap := h', toks := tk })
  (finE : ∀ D ρ₁ e S' h' tk, Wd sc csc src b t f ρ = .exc D ρ₁ → Rel G cx sc ρ₁ S' h' → Fly s.heap h' e D → Ext S s.heap S' h' → E (.ref e) { s with heap := h', toks := tk }) :
  wpAny G.M cx.A (comprehension (.ListComp elt [⟨tg, iter, ifs, 0⟩] csc pos) csc cx.env p (newList []) false (eval iter cx.env) use) Q E s := by
 have hok0 := hok
 unfold Jw at hok0
 simp only [Bool.and_eq_true, beq_iff_eq] at hok0
 have hkind : csc.kind = .function := hok0.1.1
 have hnd : (csc.names.map (·.1)).Nodup := X8 hok0.1.2
 obtain ⟨ρ', ds, ρ₁, ρ₀, z, c1, c2, c3, c4, c5⟩ := Fo nst
 have g₀ : CG G cx sc csc ρ S s.heap [] s.heap.objs.size ρ' := ⟨ok.hsc, r, (fun b hb => by cases hb), Nat.le_refl _, hok, c1⟩
 have hcl : ∀ x ∈ csc.names, x.2 = .free → ∃ c, cx.env.cells.lookup x.1 = some c := fun x hx hf => by
  obtain ⟨n, kk⟩ := x
  cases hf
  obtain ⟨c, v, i, t, h1, _⟩ := g₀.taken (YW hnd hx)
  exact ⟨c, h1⟩
 refine WY (use := use) rfl (hs cx.env) (O2 hcl) hkind (fun x hx hl => by
  obtain ⟨n, kk⟩ := x
  cases hl
  exact YW hnd hx) ?_
 refine hi cx ok ρ S s r _ E ?_
 rw [c2]
 intro I wr St S₁ h₁ t₁ r₁ it st nw x₁ v₁
 have new : ∀ b ∈ wr, cx.h₀.get? b = none ∧ G.B.get? b = none := fun b hb => ⟨r.keep.none (nw b hb), by
  cases q : G.B.get? b with
  | none => rfl
  | some o => have := r.base b o q; rw [nw b hb] at this; cases this⟩
 have g : CG G cx sc csc ρ₁ S₁ h₁ wr (h₁.objs.size + 1) ρ₀ := ⟨ok.hsc, r₁, new, Nat.le_succ _, hok, c3⟩
 have sh := it.shape 0 S₁ h₁ st
 have ci := CI.init g sh
 refine wpAny_newObj_type (UV ?_) (by show ([] : List Value).toArray.size ≤ sizeLine; simp)
 dsimp only
 rw [Heap.size_push]
 have envE : ({ scope := relabel csc cx.env, locals := h₁.objs.size + 1, globals := cx.env.globals, cells := cellsFrom (h₁.objs.size + 1 + 1) csc.names (Y5 cx.env csc.names []), qual := cx.env.qual, func := none, code := cx.env.code, frame := cx.env.frame, builtins := cx.env.builtins } : Env) = Yx csc sc cx.env (h₁.objs.size + 1) := by
  unfold Yx XH
  rw [CR ok.hsc]
 rw [envE]
 have hn₁ : h₁.get? h₁.objs.size = none := Heap.get?_none_of_le (Nat.le_refl _)
 have hn₂ : h₁.get? (h₁.objs.size + 1) = none := Heap.get?_none_of_le (Nat.le_succ _)
 have loop : codeAny G.M cx.A (.compLoop (.ListComp elt [⟨tg, iter, ifs, 0⟩] csc pos) 0 (.ref I) (.ref h₁.objs.size) (Yx csc sc cx.env (h₁.objs.size + 1))) (Fj G.M cx.A E use Q (.ref h₁.objs.size) (h₁.objs.size + 1)) { s with heap := Y4 h₁ csc, toks := t₁ } := by
  refine El (s := { s with heap := Y4 h₁ csc, toks := t₁ }) (n := 0) g ok it ha hxs ht he ci ?_ hn₁ (Nat.lt_succ_self _) (fun q => ?_) (it.ext 0 S₁ h₁ S₁ _ st (Ext.of_keeps fun b o e => Q7 e)) (C9 r.hOk nw) c4 (fun out S' h' tk hz ci' own hSL => ?_) fun D e S' h' tk hz ci' fly => ?_
  ·exact pushCells_keeps _ _ _ _ (Heap.get?_push_of_some _ (Heap.get?_push_size _ rfl))
  ·obtain ⟨o, e⟩ := r₁.sdom _ q; rw [hn₁] at e; cases e
  ·obtain ⟨ro, same⟩ := r₁.after ci'.aft ci'.base fun b hb => (new b hb).1
   refine fin out ρ₁ h₁.objs.size (h₁.objs.size + 1) S' h' tk (by rw [c5, hz]; rfl) ro (ci'.aft.ext x₁ nw) (v₁.trans same) ⟨_, rfl, hSL, own, r₁.keep.none hn₁, fun x hd q => ?_⟩ ci'.ns ci'.sloc (Nat.succ_ne_self _) ?_ (r₁.keep.none hn₂) ?_ (x₁.none hn₂) (fun env he q => ?_) fun j y m ks ds hy hj q => ?_
   rotate_right
   ·obtain ⟨o, e⟩ := r₁.live y _ (r₁.clean j y m _ hy hj) (ci'.aft.varBack r₁ q)
    rw [hn₂] at e; cases e
   ·obtain ⟨o, e⟩ := r₁.live x _ hd (ci'.aft.varBack r₁ q)
    rw [hn₁] at e; cases e
   ·intro q
    obtain ⟨m, o, _, _, e, _⟩ := r₁.ns
    rw [← q, hn₂] at e; cases e
   ·cases q : G.B.get? (h₁.objs.size + 1) with
    | none => rfl
    | some o => have := r₁.base _ o q; rw [hn₂] at this; cases this
   ·obtain ⟨_, L, o, b, _, d, _⟩ := r₁.ff env he
    rw [q] at b; cases b
    rw [hn₂] at d; cases d
  ·obtain ⟨ro, same⟩ := r₁.after ci'.aft ci'.base fun b hb => (new b hb).1
   have fly₀ : Fly s.heap h' e D := fly.since x₁.dom
   have xh : Ext S s.heap S' h' := ci'.aft.ext x₁ nw
   refine JW (B := G.B) (h := s.heap) (s := { s with heap := h', toks := tk }) ok.fr ro.ff ok.top fly₀ xh.dom fun h₂ k₂ f₂ => ?_
   obtain ⟨m, oC, es, ep, eC, dC, q⟩ := ci'.ns
   obtain ⟨sl, eC₂⟩ := k₂.kd _ oC es ep eC dC
   have ro₂ : Rel G cx sc ρ₁ S' h₂ := r.kpE ro k₂ fly₀ f₂
   have xh₂ : Ext S s.heap S' h₂ := Ext.kpE (G := G) xh k₂ fly₀
   refine ⟨m, ⟨_, es, ep, eC₂, dC, q⟩, fun h₃ m₃ n₃ k₃ ce => ?_⟩
   obtain ⟨oC', _, _, eC', _⟩ := n₃
   obtain ⟨ro₃, x₃, v₃⟩ := ro₂.butDict eC₂ dC ci'.sloc (fun q => by
    obtain ⟨m, o, _, _, e, _⟩ := r₁.ns
    rw [← q, hn₂] at e; cases e) (r₁.keep.none hn₂) (by
    cases q : G.B.get? (h₁.objs.size + 1) with
    | none => rfl
    | some o => have := r₁.base _ o q; rw [hn₂] at this; cases this) (fun env he q => by
    obtain ⟨_, L, o, b, _, d, _⟩ := r₁.ff env he
    rw [q] at b; cases b
    rw [hn₂] at d; cases d) (fun j y m ks ds hy hj q => by
    obtain ⟨o, e⟩ := r₁.live y _ (r₁.clean j y m _ hy hj) (ci'.aft.varBack r₁ (ro.varBackE k₂ fly₀ r q))
    rw [hn₂] at e; cases e) k₃ ⟨_, eC'⟩
   obtain ⟨n0, oe, vs, T, oT, ts, a1, a2, a0, a3, a4, a5, a6, a7, a8, a9, a10, a11⟩ := f₂
   have ne : e ≠ h₁.objs.size + 1 := by rintro rfl; rw [a1] at eC₂; cases eC₂; rw [a3] at dC; cases dC
   have nT : T ≠ h₁.objs.size + 1 := by rintro rfl; rw [a8] at eC₂; cases eC₂; rw [a10] at dC; cases dC
   have f₃ : FlyT s.heap h₃ e D := ⟨n0, oe, vs, T, oT, ts, (k₃.2 e ne).trans a1, a2, a0, a3, a4, a5, a6, a7, (k₃.2 T nT).trans a8, a9, a10, a11⟩
   unfold PySem.passOn
   refine wpAny_bind (wpAny_field ((k₃.2 e ne).trans a1) a3 a5 ?_)
   rw [if_neg (by simp)]
   refine wpAny_bind (JR (B := G.B) (s := { s with heap := h₃, toks := tk }) f₃ fun h₄ k₄ f₄ => ?_)
   exact wpAny_throw (finE D ρ₁ e S' h₄ tk (by rw [c5, hz]; rfl) (r.kpE ro₃ k₄ f₃.fly f₄) f₄.fly (Ext.kpE (G := G) (xh₂.trans x₃) k₄ f₃.fly))
 exact codeAny_compStart_list loop (it.self 0 S₁ _ _ _ (it.ext 0 S₁ h₁ S₁ _ st (Ext.of_keeps fun b o e => Q7 e)) loop)
theorem Bq {tg iter elt : Expr} {ifs : List Expr} {pos : Pos} {xs : List Str} {src : AEnv → Res (List D)} {b : D → AEnv → Option AEnv} {t : AEnv → Res Bool} {f : AEnv → Res T} (hi : KF G k sc tg iter src) (ha : KA G (Qp csc sc) tg xs b) (hxs : ∀ x ∈ xs, csc.names.lookup x = some .local ∨ csc.names.lookup x = some .cell)
  (ht : Oo G k (Qp csc sc) ifs t) (he : Sim G k (Qp csc sc) elt f) (hok : Jw sc csc = true) (hs : ∀ env x, foldedSetIterable iter env x = pure x) : Sim G k sc (.ListComp elt [⟨tg, iter, ifs, 0⟩] csc pos) (Wd sc csc src b t f) := by
 intro cx ok ρ S s r Q E out
 rw [eval_ListComp]
 refine Vv hi ha hxs ht he hok hs ok r (fun q => by rw [q] at out; exact out) (fun ds ρ₁ L C S' h' tk e r' x' v' fr ns hSC hCL hCl hC0 hCB hCs hff hCv => ?_) fun D ρ₁ e S' h' tk ec r' fl x' => by rw [ec] at out; exact out e h' tk S' r' fl x'
 rw [e] at out
 obtain ⟨m, n⟩ := ns
 refine ⟨m, n, fun h'' m'' n'' k'' => ?_⟩
 obtain ⟨oC, es, ep, eC, dC, _⟩ := n
 obtain ⟨oC', _, _, eC', _⟩ := n''
 obtain ⟨r'', x'', v''⟩ := r'.butDict eC dC hSC hCl hC0 hCB hff hCv k'' ⟨_, eC'⟩
 obtain ⟨a, ea, n1, ow, n2, nv⟩ := fr
 cases ea
 exact out (.ref L) h'' tk S' r'' ⟨L, rfl, n1, ow.ext x'' fun o eo => (k''.2 L (Ne.symm hCL)).trans eo, n2, fun x hd q => nv x hd (v''.2 x _ q)⟩ (x'.trans x'') fun z => v'.trans v''.1
theorem KH {tg iter elt : Expr} {ifs : List Expr} {pos yp spos : Pos} {xs : List Str} {y : Str} {i : Nat} {src : AEnv → Res (List D)} {b : D → AEnv → Option AEnv} {t : AEnv → Res Bool} {f : AEnv → Res T} (hi : KF G k sc tg iter src) (ha : KA G (Qp csc sc) tg xs b) (hxs : ∀ x ∈ xs, csc.names.lookup x = some .local ∨ csc.names.lookup x = some .cell)
  (ht : Oo G k (Qp csc sc) ifs t) (he : Sim G k (Qp csc sc) elt f) (hok : Jw sc csc = true) (hs : ∀ env x, foldedSetIterable iter env x = pure x) (hy : (Qf sc)[i]? = some y) (hk : sc.names.lookup y = some .local) (hcl : X3 y = false)
  (hsw : ∀ env : Env, env.scope = sc → swapsWith (.ListComp elt [⟨tg, iter, ifs, 0⟩] csc pos) (some (.Name y yp)) spos.line env = pure true) : YY G k sc (.Assign [.Name y yp] (.ListComp elt [⟨tg, iter, ifs, 0⟩] csc pos) spos) (Qx i (Wd sc csc src b t f)) := by
 intro cx ok fn ρ S s r Q E out
 rw [exec_Assign_Name_used _ _ _ _ (hsw cx.env ok.hsc)]
 refine wpAny_bind (wpAny_standAt (wpAny_bind ?_))
 rw [arm_evalThenUse_ListComp]
 refine wpAny_bind ?_
 unfold Qx at out
 refine Vv (use := some (assign (.Name y yp) cx.env)) hi ha hxs ht he hok hs ok r (fun q => by rw [q] at out; exact out) (fun ds ρ₁ L C S' h' tk e r' x' v' fr ns hSC hCL hCl hC0 hCB hCs hff hCv => ?_) fun D ρ₁ e S' h' tk ec r' fl x' => by rw [ec] at out; exact out e h' tk S' r' fl x'
 rw [e] at out
 show wpAny G.M cx.A (assign (.Name y yp) cx.env (.ref L)) _ E _
 rw [PySem.assign_Name]
 refine wpAny_bind (wpAny_standAt (wpAny_bindName ?_))
 refine HB (s := { s with heap := h', toks := tk }) (ok.mono (Nat.zero_le _)) fn.toFnCx r' hy hk (.inl hcl) (t := .ow true (.list ds)) fr fun h₂ t₂ r₂ x₂ k₂ f₂ => ?_
 obtain ⟨m, n⟩ := ns
 have n₂ : h₂.Ns C m := n.sameBut k₂ hCl
 refine ⟨m, n₂, fun h₃ m₃ n₃ k₃ => ?_⟩
 obtain ⟨oC, es, ep, eC, dC, _⟩ := n₂
 obtain ⟨oC', _, _, eC', _⟩ := n₃
 obtain ⟨r₃, x₃, v₃⟩ := r₂.butDict eC dC hSC hCl hC0 hCB hff (fun j z m ks ds' hz hj q => by
  have hj' := Vx hj (by intro q; cases q)
  refine hCv j z m ks ds' hz hj' (f₂ z _ ?_ q)
  rintro rfl
  obtain ⟨p1, e1⟩ := List.getElem?_eq_some_iff.mp hy
  obtain ⟨p2, e2⟩ := List.getElem?_eq_some_iff.mp hz
  cases (List.getElem_inj ok.nodup).mp (e1.trans e2.symm)
  by_cases hl : i < ρ₁.length
  ·rw [List.getElem?_set_self hl] at hj; cases hj
  ·rw [List.getElem?_eq_none (by rw [List.length_set]; exact Nat.le_of_not_lt hl)] at hj; cases hj) k₃ ⟨_, eC'⟩
 exact wpAny_pure (wpAny_pure (out .next h₃ t₂ S' r₃ trivial ((x'.trans x₂).trans x₃) fun z => by cases z))
end
structure Gr (G : Gd) : Prop where
 ok : G.Ok
 tr : ∃ p loose, W.TopRead p loose G.mg G.mb G.B
 mbb : ∀ x : Str, x ≠ "__name__" → G.mb x = bootBuiltins x
noncomputable def Xd (K : W.Frag) (a : Addr) : FuncData := match K.lookup a with | some ⟨_, _, .func fd, _⟩ => fd | _ => default
noncomputable def Wr (K : W.Frag) (a : Addr) : Bool := match K.lookup a with | some ⟨_, _, .func _, _⟩ => true | _ => false
noncomputable def Jd (fd : FuncData) : List Stmt := match fd.body with | .stmts b => b | _ => []
set_option tactic.hygienic true in
theorem DO {G : Gd} (g : Gr G) {a : Addr} (h : Wr G.K a = true) : ∃ fo, G.B.get? a = some fo ∧ fo.data = .func (Xd G.K a) := by
 unfold Wr at h
 unfold Xd
 split at h
 ·rename_i c d fd sl e
  exact ⟨_, g.ok.K _ _ e, rfl⟩
 ·cases h
section
variable {G : Gd} {k : Nat} {sc : Scope} {x : Str} {p : Pos}
theorem nV (i : Nat) (hx : autoParam ((Qf sc)[i]? = some x) aK._auto_1) (hd : autoParam ((x == ("__debug__" : Str)) = false) aK._auto_1) (hn : autoParam ((x == ("__classdict__" : Str)) = false) aK._auto_1) : Sim G k sc (.Name x p) (Q3 i) := Fq hx hd hn
theorem nB (i : Nat) (hx : autoParam ((Qf sc)[i]? = some x) aK._auto_1) (hd : autoParam ((x == ("__debug__" : Str)) = false) aK._auto_1) (hn : autoParam ((x == ("__classdict__" : Str)) = false) aK._auto_1) : Qh G k sc (.Name x p) (eOp i) := EF hx hd hn
theorem gF (g : Gr G) (a : Addr) (e : autoParam (W.nsIn G.K mainGlobals x = some (some (.ref a))) aK._auto_1) (ho : autoParam ((G.K.lookup a).isSome = true) aK._auto_1) (hx : autoParam (sc.names.lookup x = some .globalImplicit) aK._auto_1) (hd : autoParam ((x == ("__debug__" : Str)) = false) aK._auto_1) :
  Sim G k sc (.Name x p) (Qe (.glob (.ref a))) := by
 obtain ⟨o, ho⟩ := Option.isSome_iff_exists.mp ho
 exact Dn g.ok hx (W.mg_of g.ok.K g.ok.g e) (fun b q => by cases q; exact ⟨o, g.ok.K _ _ ho⟩) hd
theorem gI (g : Gr G) (i : Int) (t : Tok) (e : autoParam (W.nsIn G.K mainGlobals x = some (some (.int i t))) aK._auto_1) (hx : autoParam (sc.names.lookup x = some .globalImplicit) aK._auto_1) (hd : autoParam ((x == ("__debug__" : Str)) = false) aK._auto_1) :
  Sim G k sc (.Name x p) (Qe (.int i)) := O3 g.ok hx (W.mg_of g.ok.K g.ok.g e) hd
theorem gB (g : Gr G) (v : Value) (e : autoParam (W.nsIn G.K mainGlobals x = some none) aK._auto_1) (hv : autoParam (bootBuiltins x = some v) aK._auto_1) (hn : autoParam ((x == ("__name__" : Str)) = false) aK._auto_1) (hl : autoParam (v.isRef = false) aR._auto_1) (hx : autoParam (sc.names.lookup x = some .globalImplicit) aK._auto_1) (hd : autoParam ((x == ("__debug__" : Str)) = false) aK._auto_1) :
  Sim G k sc (.Name x p) (Qe (.glob v)) :=
 Co g.ok hx (W.mg_none_of g.ok.K g.ok.g e) ((g.mbb x (by simpa using hn)).trans hv) (fun a q => by subst q; cases hl) hd
variable {args : List Expr} {pos : Pos}
theorem cF (g : Gr G) (a : Addr) {k' : Nat} {F : List D → FOut} {fa : AEnv → Res (List Bv)} (hF : ZA G k' (.ref a) F) (ha : Ji G k sc args fa) (hk : autoParam (k' ≤ k) aD._auto_1) (hf : autoParam (Wr G.K a = true) aK._auto_1) (e : autoParam (W.nsIn G.K mainGlobals x = some (some (.ref a))) aK._auto_1) (ho : autoParam ((G.K.lookup a).isSome = true) aK._auto_1) (hx : autoParam (sc.names.lookup x = some .globalImplicit) aK._auto_1) (hd : autoParam ((x == ("__debug__" : Str)) = false) aK._auto_1) (hu : autoParam (args.all QS = true) aK._auto_1) :
  Sim G k sc (.Call (.Name x p) args [] pos) (Qy F fa) := by
 obtain ⟨fo, h1, h2⟩ := DO g hf
 exact FA (gF g a e ho hx hd) h1 h2 hF hk ha hu
theorem cB (g : Gr G) (v : Value) {F : List D → Option T} {fa : AEnv → Res (List Bv)} (hop : OpN G (fun vs => call v vs []) F) (ha : Ji G k sc args fa) (e : autoParam (W.nsIn G.K mainGlobals x = some none) aK._auto_1) (hv : autoParam (bootBuiltins x = some v) aK._auto_1) (hn : autoParam ((x == ("__name__" : Str)) = false) aK._auto_1) (hl : autoParam (v.isRef = false) aR._auto_1) (hx : autoParam (sc.names.lookup x = some .globalImplicit) aK._auto_1) (hd : autoParam ((x == ("__debug__" : Str)) = false) aK._auto_1) (hu : autoParam (args.all QS = true) aK._auto_1) :
  Sim G k sc (.Call (.Name x p) args [] pos) (QX F fa) := EP (gB g v e hv hn hl hx hd) (fun a q => by subst q; cases hl) hop ha hu
theorem aC {e : Expr} {rest : List Expr} {f : AEnv → Res Bv} {h : AEnv → Res (List Bv)} (he : Qh G k sc e f) (hr : Ji G k sc rest h) (hs : autoParam (QS e = true) aK._auto_1) : Ji G k sc (e :: rest) (Qb f h) := De he hr hs
theorem vC {e : Expr} {rest : List Expr} {f : AEnv → Res T} {h : AEnv → Res (List D)} (he : Sim G k sc e f) (hr : OE G k sc rest h) (hs : autoParam (QS e = true) aK._auto_1) : OE G k sc (e :: rest) (QH f h) := CS he hr hs
theorem Em {l r : Expr} {op : CmpOp} {f h : AEnv → Res Bv} {F : D → D → Option T} (hl : Qh G k sc l f) (hr : Qh G k sc r h) (hop : Op2 G (compareOp op) F) (hm : autoParam (behindInMarks op r = false) aK._auto_1) : Sim G k sc (.Compare l [op] [r] pos) (Qr F f h) := VU hl hr hop hm
theorem JQ {l r : Expr} {op : CmpOp} {f h : AEnv → Res Bv} {F : D → D → Option T} (hl : Qh G k sc l f) (hr : Qh G k sc r h) (hop : Op2 G (compareOp op) F) (hm : autoParam (behindInMarks op r = false) aK._auto_1) : Ju G k sc (.Compare l [op] [r] pos) (QD F f h) := OX hl hr hop hm
theorem chT {l m r : Expr} {op op' : CmpOp} {f g h : AEnv → Res Bv} {F F' : D → D → Option T} (hl : Qh G k sc l f) (hm : Qh G k sc m g) (hr : Qh G k sc r h) (hop : Op2 G (compareOp op) F) (hop' : Op2 G (compareOp op') F') (hb : autoParam (behindInMarks op' r = false) aK._auto_1) : Ju G k sc (.Compare l [op, op'] [m, r] pos) (YK F F' f g h) := Dj hl hm hr hop hop' hb
theorem Y3 {fn : Expr} {f : AEnv → Res Bv} (h : Qh G k sc (.Call fn args [] pos) f) : Ju G k sc (.Call fn args [] pos) (Q5 f) := B9 h fun _ _ => rfl
theorem IC {f : AEnv → Res Bv} (h : Qh G k sc (.Name x p) f) : Ju G k sc (.Name x p) (Q5 f) := B9 h fun _ _ => rfl
theorem sub {value slice : Expr} {f g : AEnv → Res Bv} (hl : Qh G k sc value f) (hr : Qh G k sc slice g) (hs : autoParam (∀ o i, subscripted slice false o i = operate [o, i] (getItem o i)) aJ._auto_1) : Sim G k sc (.Subscript value slice pos) (Qr QY f g) := O7 hl hr hs
theorem asg {value : Expr} {f : AEnv → Res T} (i : Nat) (h : Sim G k sc value f) (hx : autoParam ((Qf sc)[i]? = some x) aK._auto_1) (hk : autoParam ((sc.names.lookup x == some .local || sc.names.lookup x == some .cell) = true) aK._auto_1) (hcl : autoParam (X3 x = false) aK._auto_1) (hs : autoParam (∀ env : Env, swapsWith value (some (.Name x p)) pos.line env = pure false) aI._auto_1) : YY G k sc (.Assign [.Name x p] value pos) (Qx i f) :=
 Cf h hx (by simpa using hk) hcl fun env _ => hs env
theorem GY (i : Nat) (hx : autoParam ((Qf sc)[i]? = some x) aK._auto_1) (hd : autoParam ((x == ("__debug__" : Str)) = false) aK._auto_1) (hn : autoParam ((x == ("__classdict__" : Str)) = false) aK._auto_1) : YY G k sc (.Return (some (.Name x p)) pos) (YB i) := Ol hx hd hn
theorem exM {e : Expr} {f : AEnv → Res T} (h : UY G k sc e f) (hs : autoParam (∀ env : Env, swapsWith e none pos.line env = pure false) aI._auto_1) : YY G k sc (.Expr e pos) (Zd (Qc f)) := Do h hs
theorem HN {apos : Pos} {e : Expr} {f : AEnv → Res T} (i : Nat) (he : UY G k sc e f) (hx : autoParam ((Qf sc)[i]? = some x) aK._auto_1) (hd : autoParam ((x == ("__debug__" : Str)) = false) aK._auto_1) (hn : autoParam ((x == ("__classdict__" : Str)) = false) aK._auto_1) (hu : autoParam (∀ env, backTo pos (starEach [e] env) = [(false, eval e env)]) aI._auto_1) (hline : autoParam ((apos.endLine == pos.line) = true) aR._auto_1) : UY G k sc (.Call (.Attribute (.Name x p) "append" apos) [e] [] pos) (YE i f) := C4 he hx hd hn hu hline
theorem HR {ip : Pos} {ix value : Expr} {f : AEnv → Res Bv} {g : AEnv → Res T} (i : Nat) (hf : Qh G k sc ix f) (hg : Sim G k sc value g) (hx : autoParam ((Qf sc)[i]? = some x) aK._auto_1) (hd : autoParam ((x == ("__debug__" : Str)) = false) aK._auto_1) (hn : autoParam ((x == ("__classdict__" : Str)) = false) aK._auto_1)
  (hs : autoParam (∀ env : Env, swapsWithSole [.Subscript (.Name x p) ix ip] value pos.line env = pure false) aI._auto_1) (hw : autoParam (∀ env : Env, swappedStores [.Subscript (.Name x p) ix ip] value env = pure none) aI._auto_1) : YY G k sc (.Assign [.Subscript (.Name x p) ix ip] value pos) (X5 i f g) := VV hf hg hx hd hn (fun env _ => hs env) hw
theorem tgN (i : Nat) (hx : autoParam ((Qf sc)[i]? = some x) aK._auto_1) : KA G sc (.Name x p) [x] (QG i) := Vu hx
theorem Hu {y : Str} {py tp : Pos} {n : Nat} (i j : Nat) (hx : autoParam ((Qf sc)[i]? = some x) aK._auto_1) (hy : autoParam ((Qf sc)[j]? = some y) aK._auto_1) : KA G sc (.Tuple [.Name x p, .Name y py] n tp) [x, y] (Xg [i, j]) := Dq (.cons hx (.cons hy .nil))
theorem J3 {tg iter : Expr} {body : List Stmt} {src : AEnv → Res (List D)} {xs : List Str} {b : D → AEnv → Option AEnv} {f : AEnv → Res Fl} (hi : KF G k sc tg iter src) (ht : KA G sc tg xs b) (hb : Wa G k sc body f) (hxs : autoParam ((xs.all fun x => sc.names.lookup x == some .local || sc.names.lookup x == some .cell) = true) aK._auto_1)
  (hs : autoParam (∀ env x, foldedSetIterable iter env x = pure x) aJ._auto_1) : YY G k sc (.For tg iter body [] pos) (ZI src b f) := Fx hi ht (fun x hx => by simpa using List.all_eq_true.mp hxs x hx) hb hs
theorem enu (g : Gr G) {es : List Expr} {n : Nat} {tp : Pos} {e : Expr} {f : AEnv → Res T} (h : Sim G k sc e f) (hq : autoParam (G.quiet = true) aR._auto_1) (he : autoParam (W.nsIn G.K mainGlobals ("enumerate" : Str) = some none) aK._auto_1) (hx : autoParam (sc.names.lookup ("enumerate" : Str) = some .globalImplicit) aK._auto_1) (hu : autoParam (QS e = true) aK._auto_1) : KF G k sc (.Tuple es n tp) (.Call (.Name "enumerate" p) [e] [] pos) (WA f) :=
 EJ hq (gB g (.type "enumerate") he (by kernel_rfl) (by kernel_rfl) rfl hx (by kernel_rfl)) h hu
end
noncomputable def ES (sc csc : Scope) : List (Option Nat) := (Qf (Qp csc sc)).map fun x => if csc.names.lookup x == some .free then (Qf sc).findIdx? (· == x) else none
noncomputable def J5 (ρ : AEnv) : List (Option Nat) → Option AEnv
 | [] => some []
 | none :: r => (J5 ρ r).map (none :: ·)
 | some i :: r => match ρ[i]? with
  | some (some t) => (J5 ρ r).map (some t.weak :: ·)
  | _ => none
noncomputable def WQ (sc csc : Scope) : Bool := csc.names.all fun x => x.2 != .free || ((Qf sc).findIdx? (· == x.1)).isSome
theorem V7 {sc csc : Scope} {ρ : AEnv} (hf : WQ sc csc = true) : ∀ (l : List Str), KI sc csc ρ l = J5 ρ (l.map fun x => if csc.names.lookup x == some .free then (Qf sc).findIdx? (· == x) else none)
 | [] => rfl
 | x :: r => by
  rw [KI, List.map_cons, V7 hf r]
  unfold Uz
  by_cases hx : (csc.names.lookup x == some .free) = true
  ·rw [if_pos hx, if_pos hx]
   have := List.all_eq_true.mp hf (x, .free) (ZV (beq_iff_eq.mp hx))
   simp only [bne_self_eq_false, Bool.false_or] at this
   obtain ⟨i, hi⟩ := Option.isSome_iff_exists.mp this
   rw [hi]
   simp only
   generalize List.map _ r = l'
   rw [J5]
   cases hr : ρ[i]? with
   | none => cases hq : J5 ρ l' <;> rfl
   | some u =>
    cases u with
    | none => cases hq : J5 ρ l' <;> rfl
    | some t => cases hq : J5 ρ l' <;> rfl
  ·rw [if_neg hx, if_neg hx, J5]
   generalize List.map _ r = l'
   cases hq : J5 ρ l' <;> rfl
noncomputable def Z7 (cap : List (Option Nat)) (src : AEnv → Res (List D)) (b : D → AEnv → Option AEnv) (t : AEnv → Res Bool) (f : AEnv → Res T) : AEnv → Res T := fun ρ => match J5 ρ cap with
 | none => .stuck
 | some _ => match src ρ with
  | .ok ds ρ₁ => (match J5 ρ₁ cap with
   | some ρ₀ => HE (JF b t f ρ₀ ds []) ρ₁
   | none => .stuck)
  | _ => .stuck
theorem VP {sc csc : Scope} {cap : List (Option Nat)} {src : AEnv → Res (List D)} {b : D → AEnv → Option AEnv} {t : AEnv → Res Bool} {f : AEnv → Res T} (hf : WQ sc csc = true) (hc : ES sc csc = cap) : Wd sc csc src b t f = Z7 cap src b t f := by
 funext ρ
 unfold Wd Z7
 rw [V7 hf, show (Qf (Qp csc sc)).map _ = cap from hc]
 cases J5 ρ cap with
 | none => rfl
 | some _ =>
  simp only
  cases src ρ with
  | ok ds ρ₁ =>
   simp only
   rw [V7 hf, show (Qf (Qp csc sc)).map _ = cap from hc]
   all_goals rfl
  | exc _ _ => rfl
  | stuck => rfl
section
variable {G : Gd} {k : Nat} {sc csc : Scope} {tg iter elt : Expr} {ifs : List Expr} {pos : Pos} {xs : List Str} {src : AEnv → Res (List D)} {b : D → AEnv → Option AEnv} {t : AEnv → Res Bool} {f : AEnv → Res T}
theorem lc (cap : List (Option Nat)) (hi : KF G k sc tg iter src) (ha : KA G (Qp csc sc) tg xs b) (ht : Oo G k (Qp csc sc) ifs t) (he : Sim G k (Qp csc sc) elt f) (hxs : autoParam ((xs.all fun x => csc.names.lookup x == some .local || csc.names.lookup x == some .cell) = true) aK._auto_1) (hok : autoParam (Jw sc csc = true) aK._auto_1) (hfd : autoParam (WQ sc csc = true) aK._auto_1) (hc : autoParam (ES sc csc = cap) aK._auto_1)
  (hs : autoParam (∀ env x, foldedSetIterable iter env x = pure x) aJ._auto_1) : Sim G k sc (.ListComp elt [⟨tg, iter, ifs, 0⟩] csc pos) (Z7 cap src b t f) := by
 rw [← VP hfd hc]
 exact Bq hi ha (fun x hx => by simpa using List.all_eq_true.mp hxs x hx) ht he hok hs
theorem Dm {y : Str} {yp : Pos} {l : Nat} (hk : sc.kind = .function) (hy : sc.names.lookup y = some .local) (hl : (yp.line == pos.line) = true) (hn : (csc.names.any fun (n, k) => n == y && (k == .local || k == .cell)) = false) (env : Env) (he : env.scope = sc) : swapsWith (.ListComp elt [⟨tg, iter, ifs, 0⟩] csc pos) (some (.Name y yp)) l env = pure true := by
 show (pure (env.blockKind == .function && env.kindOf y == some .local && yp.line == pos.line && !(csc.names.any fun (n, k) => n == y && (k == .local || k == .cell))) : Sem Bool) = _
 have h1 : env.blockKind = .function := by
  unfold Env.blockKind
  rw [he, hk]
  rfl
 have h2 : env.kindOf y = some .local := by unfold Env.kindOf; rw [he]; exact hy
 rw [h1, h2, hl, hn]
 rfl
theorem IG {y : Str} {yp spos : Pos} (i : Nat) (cap : List (Option Nat)) (hi : KF G k sc tg iter src) (ha : KA G (Qp csc sc) tg xs b) (ht : Oo G k (Qp csc sc) ifs t) (he : Sim G k (Qp csc sc) elt f) (hxs : autoParam ((xs.all fun x => csc.names.lookup x == some .local || csc.names.lookup x == some .cell) = true) aK._auto_1) (hok : autoParam (Jw sc csc = true) aK._auto_1) (hfd : autoParam (WQ sc csc = true) aK._auto_1) (hc : autoParam (ES sc csc = cap) aK._auto_1)
  (hs : autoParam (∀ env x, foldedSetIterable iter env x = pure x) aJ._auto_1) (hy : autoParam ((Qf sc)[i]? = some y) aK._auto_1) (hk : autoParam (sc.names.lookup y = some .local) aK._auto_1) (hcl : autoParam (X3 y = false) aK._auto_1) (hkk : autoParam (sc.kind = .function) aK._auto_1) (hl : autoParam ((yp.line == pos.line) = true) aR._auto_1) (hn : autoParam ((csc.names.any fun (n, k) => n == y && (k == .local || k == .cell)) = false) aK._auto_1) :
  YY G k sc (.Assign [.Name y yp] (.ListComp elt [⟨tg, iter, ifs, 0⟩] csc pos) spos) (Qx i (Z7 cap src b t f)) := by
 rw [← VP hfd hc]
 exact KH hi ha (fun x hx => by simpa using List.all_eq_true.mp hxs x hx) ht he hok hs hy hk hcl (Dm hkk hk hl hn)
end
noncomputable def OB (n : Nat) (is : List Nat) (ds : List D) : AEnv := (List.range n).map fun j => ((is.zip ds).lookup j).map T.sh
noncomputable def Z1 (n : Nat) (is : List Nat) (f : AEnv → Res Fl) (ds : List D) : FOut := if ds.length = is.length then F5 (f (OB n is ds)) else .stuck
noncomputable def YT (vn ps : List Str) : List Nat := ps.map fun p => (vn.findIdx? (· == p)).getD vn.length
theorem Ow {vn : List Str} (nd : vn.Nodup) {j : Nat} {x : Str} (hx : vn[j]? = some x) : ∀ (ps : List Str) (ds : List D), (ps.all fun p => vn.contains p) = true → (ps.zip ds).lookup x = ((YT vn ps).zip ds).lookup j
 | [], _, _ => rfl
 | p :: ps, [], _ => by simp [YT]
 | p :: ps, d :: ds, h => by
  rw [List.all_cons, Bool.and_eq_true_iff] at h
  have hp : p ∈ vn := by simpa using h.1
  obtain ⟨i, hi⟩ : ∃ i, vn.findIdx? (· == p) = some i := by
   cases q : vn.findIdx? (· == p) with
   | some i => exact ⟨i, rfl⟩
   | none => exact absurd (List.findIdx?_eq_none_iff.mp q p hp) (by simp)
  obtain ⟨h1, h2, _⟩ := List.findIdx?_eq_some_iff_getElem.mp hi
  have h2 : vn[i] = p := beq_iff_eq.mp h2
  have e : YT vn (p :: ps) = i :: YT vn ps := by unfold YT; rw [List.map_cons, hi]; rfl
  rw [e, List.zip_cons_cons, List.zip_cons_cons, List.lookup_cons, List.lookup_cons, Ow nd hx ps ds h.2]
  obtain ⟨j1, j2⟩ := List.getElem?_eq_some_iff.mp hx
  by_cases hxp : x = p
  ·have : j = i := (List.getElem_inj nd).mp (j2.trans (hxp.trans h2.symm))
   simp [hxp, this]
  ·have hji : ¬ j = i := fun q => hxp (by subst q; exact j2.symm.trans h2)
   have a1 : (x == p) = false := by simpa using hxp
   have a2 : (j == i) = false := by simpa using hji
   rw [a1, a2]
theorem BJ {sc : Scope} {ps : List Str} {ds : List D} (nd : (Qf sc).Nodup) (hp : (ps.all fun p => (Qf sc).contains p) = true) : ZM sc ps ds = OB (Qf sc).length (YT (Qf sc) ps) ds := by
 unfold ZM OB
 apply List.ext_getElem?
 intro j
 rw [List.getElem?_map, List.getElem?_map]
 cases hx : (Qf sc)[j]? with
 | none => rw [List.getElem?_eq_none (by rw [List.length_range]; exact List.getElem?_eq_none_iff.mp hx)]; rfl
 | some x =>
  rw [List.getElem?_range (List.getElem?_eq_some_iff.mp hx).1]
  simp only [Option.map_some]
  rw [Ow nd hx ps ds hp]
noncomputable def Xk (fd : FuncData) : List Str := fd.params.args.map (·.arg)
noncomputable def WR (fd : FuncData) : Bool := (match fd.body with | .stmts _ => true | _ => false) && fd.closure.isEmpty && fd.globals == mainGlobals && fd.builtins == builtinsNs && Ut (Qf fd.scope) && Ut (Xk fd) &&
 (Xk fd).all (fun p => (Qf fd.scope).contains p && (fd.scope.names.lookup p == some .local || fd.scope.names.lookup p == some .cell)) && fd.scope.kind == .function && !fd.scope.isCoroutine && !fd.scope.isGenerator
set_option tactic.hygienic true in
theorem fnI {G : Gd} (g : Gr G) {k : Nat} (a : Addr) (n : Nat) (is : List Nat) {f : AEnv → Res Fl} (h : Wa G k (Xd G.K a).scope (Jd (Xd G.K a)) f) (hbind : ∀ vs : List Value, vs.length = (Xk (Xd G.K a)).length → bindArgs (Xd G.K a) ⟨vs, []⟩ = pure ((Xk (Xd G.K a)).zip vs))
  (hf : autoParam (Wr G.K a = true) aK._auto_1) (hc : autoParam (W.codeIn G.K (Xd G.K a).code (Xd G.K a).qualname = true) aK._auto_1) (hpl : autoParam (WR (Xd G.K a) = true) aK._auto_1) (hn : autoParam ((Qf (Xd G.K a).scope).length = n) aK._auto_1) (hi : autoParam (YT (Qf (Xd G.K a).scope) (Xk (Xd G.K a)) = is) aK._auto_1) :
  ZA G (k + 1) (.ref a) (Z1 n is f) := by
 obtain ⟨fo, h1, h2⟩ := DO g hf
 unfold WR at hpl
 simp only [Bool.and_eq_true, beq_iff_eq, Bool.not_eq_true'] at hpl
 obtain ⟨⟨⟨⟨⟨⟨⟨⟨⟨p1, p2⟩, p3⟩, p4⟩, p5⟩, p6⟩, p7⟩, p8⟩, p9⟩, p10⟩ := hpl
 have p7' : ∀ x ∈ Xk (Xd G.K a), (Qf (Xd G.K a).scope).contains x = true ∧ ((Xd G.K a).scope.names.lookup x = some .local ∨ (Xd G.K a).scope.names.lookup x = some .cell) := fun x hx => by
  have := List.all_eq_true.mp p7 x hx
  simpa using this
 have hb : (Xd G.K a).body = .stmts (Jd (Xd G.K a)) := by
  unfold Jd
  split at p1
  ·rename_i b e; rw [e]
  ·cases p1
 have := Id g.ok (ps := Xk (Xd G.K a)) h1 h2 (W.codeRec_of g.ok.K hc) hb (by simpa using p2) p3 p4 hbind (fun x hx => (p7' x hx).2) (X8 p6) (X8 p5) p8 p9 p10 h
 have e : G2 (Xd G.K a).scope (Xk (Xd G.K a)) f = Z1 n is f := by
  funext ds
  unfold G2 Z1
  rw [BJ (X8 p5) (List.all_eq_true.mpr fun x hx => (p7' x hx).1), hn, hi]
  have hl : is.length = (Xk (Xd G.K a)).length := by rw [← hi]; unfold YT; simp
  rw [hl]
 rw [e] at this
 exact this
theorem KT {P : List Value → Prop} {n : Nat} (H : ∀ a, P [a]) (hn : autoParam (n = 1) aK._auto_1) (vs : List Value) (h : vs.length = n) : P vs := by
 subst hn
 obtain ⟨a, rfl⟩ := List.length_eq_one_iff.mp h
 exact H a
theorem KD {P : List Value → Prop} {n : Nat} (H : ∀ a b, P [a, b]) (hn : autoParam (n = 2) aK._auto_1) (vs : List Value) (h : vs.length = n) : P vs := by
 subst hn
 cases vs with
 | nil => cases h
 | cons a vs => exact KT (P := fun vs => P (a :: vs)) (H a) rfl vs (Nat.succ.inj h)
theorem HL {P : List Value → Prop} {n : Nat} (H : ∀ a b c, P [a, b, c]) (hn : autoParam (n = 3) aK._auto_1) (vs : List Value) (h : vs.length = n) : P vs := by
 subst hn
 cases vs with
 | nil => cases h
 | cons a vs => exact KD (P := fun vs => P (a :: vs)) (H a) rfl vs (Nat.succ.inj h)
theorem IK {P : List Value → Prop} {n : Nat} (H : ∀ a b c d, P [a, b, c, d]) (hn : autoParam (n = 4) aK._auto_1) (vs : List Value) (h : vs.length = n) : P vs := by
 subst hn
 cases vs with
 | nil => cases h
 | cons a vs => exact HL (P := fun vs => P (a :: vs)) (H a) rfl vs (Nat.succ.inj h)
section
variable {prog : Program} {w : World} {A : Around} {E : Value → Shared → Prop} {s : Shared}
end
section
variable {prog : Program} {w : World} {A : Around} {E : Value → Shared → Prop} {s : Shared}
end
section
variable {G : Gd} {A : Around} {tg : Expr}
end
end Mine
end

section
namespace Mine
open PySem PyProof.Rows PySem.Spec
section
variable {prog : Program} {w : World} {A : Around} {E : Value → Shared → Prop} {s : Shared}
end
end Mine
end

section
namespace Mine
open PySem
noncomputable def QB (k : List Int) : List (List Int) → Option Nat
 | [] => none
 | x :: r => if x = k then some 0 else (QB k r).map (· + 1)
theorem OS {k : List Int} : ∀ {ks : List (List Int)}, k ∉ ks → QB k ks = none
 | [], _ => rfl
 | x :: r, h => by
  rw [List.mem_cons, not_or] at h
  rw [QB, if_neg (Ne.symm h.1), OS h.2]; rfl
set_option tactic.hygienic true in
theorem UL {k : List Int} : ∀ {ks : List (List Int)} {j : Nat}, QB k ks = some j → ks[j]? = some k
 | x :: r, j, h => by
  rw [QB] at h
  split at h
  ·rename_i e; cases h; rw [e]; rfl
  ·obtain ⟨i, hi, rfl⟩ := Option.map_eq_some_iff.mp h
   rw [List.getElem?_cons_succ]; exact UL hi
theorem Oe {k : List Int} : ∀ {ks : List (List Int)} {j : Nat}, ks.Nodup → ks[j]? = some k → QB k ks = some j
 | x :: r, 0, _, h => by cases h; rw [QB, if_pos rfl]
 | x :: r, j + 1, nd, h => by
  rw [List.getElem?_cons_succ] at h
  have hm := List.mem_of_getElem? h
  rw [QB, if_neg (by rintro rfl; exact (List.nodup_cons.mp nd).1 hm), Oe (List.nodup_cons.mp nd).2 h]; rfl
set_option tactic.hygienic true in
theorem Jj {k : List Int} {ks : List (List Int)} (h : QB k ks = none) : k ∉ ks := fun hm => by
 induction ks with
 | nil => cases hm
 | cons x r ih =>
  rw [QB] at h
  split at h
  ·cases h
  ·rename_i hx
   rcases List.mem_cons.mp hm with e | hm
   ·exact hx e.symm
   ·exact ih (by cases q : QB k r with | none => rfl | some j => rw [q] at h; cases h) hm
noncomputable def W7 : List D → Option (List Int)
 | [] => some []
 | .int i :: ds => (W7 ds).map (i :: ·)
 | _ :: _ => none
noncomputable def Yr : D → Option (List Int)
 | .tup ds => W7 ds
 | _ => none
theorem Vd : ∀ {ds : List D} {k : List Int}, W7 ds = some k → ds = k.map .int
 | [], k, h => by cases h; rfl
 | d :: ds, k, h => by
  cases d with
  | int i =>
   rw [W7] at h
   obtain ⟨r, hr, rfl⟩ := Option.map_eq_some_iff.mp h
   rw [List.map_cons, ← Vd hr]
  | _ => cases h
theorem Fu {d : D} {k : List Int} (h : Yr d = some k) : d = Yv k := by
 cases d with
 | tup ds => exact congrArg D.tup (Vd h)
 | _ => cases h
theorem OJ : ∀ k : List Int, W7 (k.map .int) = some k
 | [] => rfl
 | i :: k => by rw [List.map_cons, W7, OJ k]; rfl
theorem Ek (k : List Int) : Yr (Yv k) = some k := OJ k
section
variable {prog : Program} {w : World} {S : Addr → Prop} {h : Heap}
theorem CW {k : List Int} : ∀ {vs : List Value}, RVs S h vs (k.map .int) → ItemsAre (intKind prog w) k vs := by
 induction k with
 | nil => intro vs q; cases q; exact .nil
 | cons i k ih =>
  intro vs q
  cases q with
  | cons q r =>
   cases q with
   | int i t => exact .cons (by show Value.isInt i (.int i t) = true; simp [Value.isInt]) (ih r)
theorem Bi {k : List Int} {a : Addr} (q : RV S h (.ref a) (Yv k)) : IsTupleKey (intKind prog w) h k a := by
 unfold Yv at q
 cases q with
 | tup e hc hd r => exact ⟨_, _, _, e, hc, hd, CW r⟩
end
section
variable {prog : Program} {w : World} {A : Around} {E : Value → Shared → Prop} {s : Shared} {S : Addr → Prop} {d a : Addr} {k : List Int} {ks : List (List Int)} {ds : List D}
theorem FX {Q : Int → Shared → Prop} (hu : A.units < cLine) (hk : RV S s.heap (.ref a) (Yv k)) (h : Q (UQ k) { s with toks := s.toks + (k.length + 1) }) : wpAny (model prog w) A (pyHash (.ref a)) Q E s :=
 wpAny_pyHash_tuple (knd := intKind prog w) hu (Bi hk) h
theorem F4 {Q : Option Nat → Shared → Prop} (hu : A.units < cLine) (hk : RV S s.heap (.ref a) (Yv k)) (q : DictAt S s.heap d ks ds) (h : Q (QB k ks) s) : wpAny (model prog w) A (dictFind d (.ref a) (UQ k)) Q E s := by
 obtain ⟨o, es, n, xs, e, hc, hd, he, hks, nd, hr, rv, hm⟩ := q
 refine wpAny_dictFind_heap (knd := tupleKind (intKind prog w)) (xs := xs) hu (Bi hk) e hd he (fun x hx => Bi (hr x hx)) (by rw [hks]; exact nd) (fun hno => ?_) (fun j p hj => ?_)
 ·rw [OS] at h
  ·exact h
  ·intro hin
   rw [← hks] at hin
   obtain ⟨x, hx, rfl⟩ := List.mem_map.mp hin
   obtain ⟨j, hj⟩ := List.getElem?_of_mem hx
   exact hno j x.2 hj
 ·rw [Oe nd (j := j) (by rw [← hks, List.getElem?_map, hj]; rfl)] at h
  exact h
theorem DictAt.sys (q : DictAt S s.heap d ks ds) : (d == sysModules) = false := by
 obtain ⟨_, _, _, _, _, _, _, _, _, _, _, _, hm⟩ := q; exact hm
theorem DictAt.typeIs (q : DictAt S s.heap d ks ds) : s.TypeIs (.ref d) "dict" := by
 obtain ⟨o, _, _, _, e, hc, _⟩ := q; exact ⟨o, e, hc.1⟩
theorem VY (f : Array DictEntry → Array DictEntry) (o : Obj) : (Obj.mapDict f o).dict = o.dict := by
 obtain ⟨c, d, dt, sl⟩ := o
 cases dt <;> rfl
theorem W0 (f : Array DictEntry → Array DictEntry) (o : Obj) : (Obj.mapDictKeys f o).dict = o.dict := by
 obtain ⟨c, d, dt, sl⟩ := o
 cases dt <;> rfl
theorem DictAt.val (q : DictAt S s.heap d ks ds) {j : Nat} (hj : QB k ks = some j) : ∃ o es n v b d', s.heap.get? d = some o ∧ o.data = .dict es n ∧ es[j]? = some ⟨UQ k, .ref b, v⟩ ∧ ds[j]? = some d' ∧ RV S s.heap v d' := by
 obtain ⟨o, es, n, xs, e, hc, hd, he, hks, nd, hr, rv, hm⟩ := q
 have h1 := UL hj
 rw [← hks, List.getElem?_map] at h1
 obtain ⟨x, hx, rfl⟩ := Option.map_eq_some_iff.mp h1
 have hl : (xs.map (·.2.2))[j]? = some x.2.2 := by rw [List.getElem?_map, hx]; rfl
 have hlt : j < ds.length := by rw [← rv.length, List.length_map]; exact (List.getElem?_eq_some_iff.mp hx).1
 obtain ⟨v, hv, r⟩ := rv.get (k := j) (List.getElem?_eq_getElem hlt)
 rw [hl] at hv; cases hv
 exact ⟨o, es, n, x.2.2, x.2.1, _, e, hd, by rw [← Array.getElem?_toList, he, List.getElem?_map, hx]; rfl, List.getElem?_eq_getElem hlt, r⟩
theorem EU {Q : Option Value → Shared → Prop} (hu : A.units < cLine) (hk : RV S s.heap (.ref a) (Yv k)) (q : DictAt S s.heap d ks ds)
  (hn : QB k ks = none → Q none { s with toks := s.toks + (k.length + 1) }) (hs : ∀ j v d', QB k ks = some j → ds[j]? = some d' → RV S s.heap v d' → Q (some v) { s with toks := s.toks + (k.length + 1) }) : wpAny (model prog w) A (dictGet d (.ref a)) Q E s := by
 unfold dictGet
 try with_reducible refine wpAny_holding ?_
 refine wpAny_bind (FX hu hk (wpAny_bind (F4 (s := { s with toks := s.toks + (k.length + 1) }) hu hk q ?_)))
 cases hj : QB k ks with
 | none => exact wpAny_pure (hn hj)
 | some j =>
  obtain ⟨o, es, n, v, b, d', e1, e2, e3, e4, e5⟩ := q.val hj
  refine wpAny_bind (wpAny_dictEntries (s := { s with toks := s.toks + (k.length + 1) }) e1 e2 ?_)
  rw [e3]
  exact wpAny_pure (hs j v d' hj e4 e5)
theorem IN {Q : Value → Shared → Prop} (hu : A.units + 1 < cLine) (hk : RV S s.heap (.ref a) (Yv k)) (q : DictAt S s.heap d ks ds) (h : Q (.bool (QB k ks).isSome) { s with toks := s.toks + (k.length + 1) }) : wpAny (model prog w) A (compareOp .In (.ref a) (.ref d)) Q E s := by
 have hm := q.sys
 show wpAny _ _ (do return .bool (← contains (.ref d) (.ref a))) Q E s
 refine wpAny_bind ?_
 unfold contains
 try with_reducible refine wpAny_holding ?_
 refine wpAny_bind (wpAny_specialOf q.typeIs slot_dict_contains.lookup ?_)
 show wpAny _ _ (if (some (Value.builtin "dict.__contains__") == some Value.none) = true then _ else _) _ E s
 rw [if_neg (by rw [beq_builtin_none]; exact Bool.false_ne_true)]
 refine wpAny_bind (wpAny_callSpecialUnlessNone?_slot (name := Str.ofString "__contains__") q.typeIs slot_dict_contains
  (wpAny_call_entry slot_dict_contains q.typeIs entry_dict_contains ?_ (args_dict_contains _ _)))
 show wpAny _ _ (dictGet d (.ref a) >>= _) _ _ s
 refine wpAny_bind (EU (A := A.in1) hu hk q (fun hj => ?_) fun j v d' hj _ _ => ?_)
 ·rw [hj] at h
  show wpAny _ _ (Builtin.Dict.pendingKey? d (.ref a) >>= _) _ _ _
  exact wpAny_bind (wpAny_pendingKey_other hm (wpAny_pure ⟨_, rfl, wpAny_truthy_bool (wpAny_pure h)⟩))
 ·rw [hj] at h
  show wpAny _ _ (ret (.bool true)) _ _ _
  exact wpAny_pure ⟨_, rfl, wpAny_truthy_bool (wpAny_pure h)⟩
theorem G1 {Q : Value → Shared → Prop} (hu : A.units + 1 < cLine) (hk : RV S s.heap (.ref a) (Yv k)) (q : DictAt S s.heap d ks ds) (h : Q (.bool !(QB k ks).isSome) { s with toks := s.toks + (k.length + 1) }) : wpAny (model prog w) A (compareOp .NotIn (.ref a) (.ref d)) Q E s := by
 have hm := q.sys
 show wpAny _ _ (do return .bool (!(← contains (.ref d) (.ref a)))) Q E s
 refine wpAny_bind ?_
 unfold contains
 try with_reducible refine wpAny_holding ?_
 refine wpAny_bind (wpAny_specialOf q.typeIs slot_dict_contains.lookup ?_)
 show wpAny _ _ (if (some (Value.builtin "dict.__contains__") == some Value.none) = true then _ else _) _ E s
 rw [if_neg (by rw [beq_builtin_none]; exact Bool.false_ne_true)]
 refine wpAny_bind (wpAny_callSpecialUnlessNone?_slot (name := Str.ofString "__contains__") q.typeIs slot_dict_contains
  (wpAny_call_entry slot_dict_contains q.typeIs entry_dict_contains ?_ (args_dict_contains _ _)))
 show wpAny _ _ (dictGet d (.ref a) >>= _) _ _ s
 refine wpAny_bind (EU (A := A.in1) hu hk q (fun hj => ?_) fun j v d' hj _ _ => ?_)
 ·rw [hj] at h
  show wpAny _ _ (Builtin.Dict.pendingKey? d (.ref a) >>= _) _ _ _
  exact wpAny_bind (wpAny_pendingKey_other hm (wpAny_pure ⟨_, rfl, wpAny_truthy_bool (wpAny_pure h)⟩))
 ·rw [hj] at h
  show wpAny _ _ (ret (.bool true)) _ _ _
  exact wpAny_pure ⟨_, rfl, wpAny_truthy_bool (wpAny_pure h)⟩
theorem HG {j : Nat} {Q : Value → Shared → Prop} (hu : A.units + 1 < cLine) (hk : RV S s.heap (.ref a) (Yv k)) (q : DictAt S s.heap d ks ds) (hj : QB k ks = some j) (h : ∀ v d', ds[j]? = some d' → RV S s.heap v d' → Q v { s with toks := s.toks + (k.length + 1) }) : wpAny (model prog w) A (getItem (.ref d) (.ref a)) Q E s := by
 unfold getItem
 try with_reducible refine wpAny_holding ?_
 refine wpAny_bind (wpAny_sequenceKey q.typeIs (by decide) ?_)
 refine wpAny_bind (wpAny_callSpecial?_slot (name := Str.ofString "__getitem__") q.typeIs slot_dict_getitem
  (wpAny_call_entry slot_dict_getitem q.typeIs entry_dict_getitem ?_ (args_dict_getitem _ _)))
 show wpAny _ _ (dictGet d (.ref a) >>= _) _ _ s
 refine wpAny_bind (EU (A := A.in1) hu hk q (fun q => by rw [hj] at q; cases q) fun j' v d' hj' e1 e2 => ?_)
 rw [hj] at hj'; cases hj'
 exact wpAny_pure ⟨v, rfl, wpAny_pure (h v d' e1 e2)⟩
noncomputable def VD (k : List Int) (ks : List (List Int)) : List (List Int) := match QB k ks with
 | some _ => ks
 | none => ks ++ [k]
noncomputable def VK (k : List Int) (v : D) (ks : List (List Int)) (ds : List D) : List D := match QB k ks with
 | some j => ds.set j v
 | none => ds ++ [v]
theorem Wj {α β : Type} {f : α → β} {g : α → α} {g' : β → β} (hg : ∀ x, f (g x) = g' (f x)) (l : List α) (j : Nat) : (l.modify j g).map f = (l.map f).modify j g' := by
 apply List.ext_getElem?
 intro i
 rw [List.getElem?_map, List.getElem?_modify, List.getElem?_modify, List.getElem?_map]
 cases l[i]? with
 | none => rfl
 | some x => simp only [Option.map_eq_map, Option.map_some]; split <;> simp [hg]
theorem CO {α : Type} (l : List α) (j : Nat) (v : α) : l.modify j (fun _ => v) = l.set j v := by
 apply List.ext_getElem?
 intro i
 rw [List.getElem?_modify, List.getElem?_set]
 by_cases h : j = i
 ·subst h
  by_cases hl : j < l.length
  ·simp [hl]
  ·simp [hl]
 ·simp [h]
structure DStored (S : Addr → Prop) (h : Heap) (d : Addr) (ks' : List (List Int)) (vs' : List Value) (h' : Heap) : Prop where
 but : Heap.SameBut d h h'
 obj : ∃ o es n, h.get? d = some o ∧ o.data = .dict es n
 obj' : ∃ o' es' n', h'.get? d = some o' ∧ o'.data = .dict es' n'
 at_ : ∀ ds', Ext S h S h' → RVs S h vs' ds' → DictAt S h' d ks' ds'
theorem Gx {v : Value} (hk : RV S s.heap (.ref a) (Yv k)) (q : DictAt S s.heap d ks ds) {o : Obj} {es : Array DictEntry} {n : Nat} (e : s.heap.get? d = some o) (hd : o.data = .dict es n) :
  (QB k ks = none → ∃ vs, RVs S s.heap vs ds ∧ DStored S s.heap d (ks ++ [k]) (vs ++ [v]) (s.heap.update d (Obj.mapDictKeys (·.push ⟨UQ k, .ref a, v⟩)))) ∧
  (∀ j, QB k ks = some j → ∃ vs, RVs S s.heap vs ds ∧ DStored S s.heap d ks (vs.set j v) (s.heap.update d (Obj.mapDict (·.modify j fun e => { e with val := v })))) := by
 obtain ⟨o', es', n', xs, e', hc, hd', he, hks, nd, hr, rv, hm⟩ := q
 rw [e] at e'; cases e'
 rw [hd] at hd'; cases hd'
 refine ⟨fun hj => ⟨_, rv, ?_⟩, fun j hj => ⟨_, rv, ?_⟩⟩
 ·have e₁ : (s.heap.update d (Obj.mapDictKeys (·.push ⟨UQ k, .ref a, v⟩))).get? d = _ := Heap.get?_update_self _ e (Obj.isFreed_of_dict (Obj.data_mapDictKeys hd _))
  refine ⟨Heap.SameBut.update .., ⟨o, es, n, e, hd⟩, ⟨_, _, _, e₁, Obj.data_mapDictKeys hd _⟩, fun ds' x rv' => ⟨_, _, _, xs ++ [(k, a, v)], e₁, ⟨(Obj.cls_mapDictKeys _ _).trans hc.1, (W0 _ _).trans hc.2⟩, Obj.data_mapDictKeys hd _, ?_, ?_, ?_, ?_, ?_, hm⟩⟩
  ·rw [Array.toList_push, he, List.map_append]; rfl
  ·rw [List.map_append, hks]; rfl
  ·rw [List.nodup_append]
   refine ⟨nd, by simp, ?_⟩
   rintro x hx y hy rfl
   rw [List.mem_singleton.mp hy] at hx
   exact Jj hj hx
  ·intro y hy
   rcases List.mem_append.mp hy with hy | hy
   ·exact (hr y hy).ext x
   ·rw [List.mem_singleton.mp hy]; exact hk.ext x
  ·rw [List.map_append]; exact rv'.ext x
 ·have e₁ : (s.heap.update d (Obj.mapDict (·.modify j fun e => { e with val := v }))).get? d = _ := Heap.get?_update_self _ e (Obj.isFreed_of_dict (Obj.data_mapDict hd _))
  refine ⟨Heap.SameBut.update .., ⟨o, es, n, e, hd⟩, ⟨_, _, _, e₁, Obj.data_mapDict hd _⟩, fun ds' x rv' => ⟨_, _, _, xs.modify j (fun y => (y.1, y.2.1, v)), e₁, ⟨(Obj.cls_mapDict _ _).trans hc.1, (VY _ _).trans hc.2⟩, Obj.data_mapDict hd _, ?_, ?_, nd, ?_, ?_, hm⟩⟩
  ·rw [Array.toList_modify, he]
   exact (Wj (f := Ih) (fun _ => rfl) xs j).symm
  ·rw [Wj (f := fun y : List Int × Addr × Value => y.1) (g := fun y => (y.1, y.2.1, v)) (g' := id) (fun _ => rfl), hks]
   apply List.ext_getElem?
   intro i
   rw [List.getElem?_modify]
   cases ks[i]? <;> simp
  ·intro y hy
   obtain ⟨i, hi⟩ := List.getElem?_of_mem hy
   rw [List.getElem?_modify] at hi
   cases hx : xs[i]? with
   | none => rw [hx] at hi; cases hi
   | some z =>
    rw [hx] at hi
    have := (hr z (List.mem_of_getElem? hx)).ext x
    simp only [Option.map_eq_map, Option.map_some, Option.some.injEq] at hi
    split at hi <;> (subst hi; exact this)
  ·rw [Wj (f := fun y : List Int × Addr × Value => y.2.2) (g := fun y => (y.1, y.2.1, v)) (g' := fun _ => v) (fun _ => rfl), CO]
   exact rv'.ext x
theorem Ig {v : Value} {Q : Unit → Shared → Prop} (hu : A.units + 1 < cLine) (hk : RV S s.heap (.ref a) (Yv k)) (q : DictAt S s.heap d ks ds) (hz : ks.length ≤ 1000000)
  (hQ : ∀ h' vs, RVs S s.heap vs ds → DStored S s.heap d (VD k ks) (match QB k ks with | some j => vs.set j v | none => vs ++ [v]) h' → Q () { s with heap := h', toks := s.toks + (k.length + 1) }) : wpAny (model prog w) A (setItem (.ref d) (.ref a) v) Q E s := by
 unfold setItem
 try with_reducible refine wpAny_holding ?_
 refine wpAny_bind (wpAny_sequenceKey q.typeIs (by decide) ?_)
 refine wpAny_bind (wpAny_callSpecial?_slot (name := Str.ofString "__setitem__") q.typeIs slot_dict_setitem
  (wpAny_call_entry slot_dict_setitem q.typeIs entry_dict_setitem ?_ (args_dict_setitem _ _ _)))
 show wpAny _ _ (Builtin.Dict.notOrdered "__setitem__" ⟨[.ref d, .ref a, v], []⟩ >>= _) _ _ s
 refine wpAny_bind (wpAny_notOrdered_dict q.typeIs ?_)
 show wpAny _ _ (dictSet d (.ref a) v >>= _) _ _ s
 refine wpAny_bind ?_
 unfold dictSet
 try with_reducible refine wpAny_holding ?_
 refine wpAny_bind (FX (A := A.in1) hu hk ?_)
 unfold dictSetHashed
 try with_reducible refine wpAny_holding ?_
 refine wpAny_bind (F4 (A := A.in1) (s := { s with toks := s.toks + (k.length + 1) }) hu hk q ?_)
 obtain ⟨o, es, n, xs, e, hc, hd, he, hks, nd, hr, rv, hm⟩ := id q
 obtain ⟨f1, f2⟩ := Gx (s := { s with toks := s.toks + (k.length + 1) }) (v := v) hk q e hd
 unfold VD at hQ
 cases hj : QB k ks with
 | none =>
  rw [hj] at hQ
  obtain ⟨vs, r1, r2⟩ := f1 hj
  refine wpAny_bind (wpAny_rule (wpAny_updateDictKeys (hz := ?_) (s := { s with toks := s.toks + (k.length + 1) }) e hd (wpAny_pure ⟨.none, rfl, wpAny_pure (hQ _ vs r1 r2)⟩)))
  rw [← Array.length_toList, he, List.length_map, sizeLine_eq]
  have : xs.length = ks.length := by rw [← hks, List.length_map]
  exact Nat.le_trans (Nat.le_of_eq this) (Nat.le_trans hz (by decide))
 | some j =>
  rw [hj] at hQ
  obtain ⟨vs, r1, r2⟩ := f2 j hj
  exact wpAny_bind (wpAny_rule (wpAny_bind (wpAny_updateDict (s := { s with toks := s.toks + (k.length + 1) }) e hd (wpAny_point (wpAny_pure ⟨.none, rfl, wpAny_pure (hQ _ vs r1 r2)⟩)))))
end
end Mine
end

section
namespace Mine
open PySem PyProof.Rows
noncomputable def Zp (ρ : AEnv) (i : Nat) : Option (List (List Int) × List D) := match ρ[i]? with
 | some (some (.ow _ (.dict ks ds))) => some (ks, ds)
 | _ => none
set_option tactic.hygienic true in
theorem US {ρ : AEnv} {i : Nat} {p : List (List Int) × List D} (h : Zp ρ i = some p) : ∃ m, ρ[i]? = some (some (.ow m (.dict p.1 p.2))) := by
 unfold Zp at h
 split at h
 ·rename_i m ks ds e; cases h; exact ⟨m, e⟩
 ·cases h
noncomputable def JO (ρ : AEnv) (i : Nat) : Option (List (List Int) × List D) := match ρ[i]? with
 | some (some (.ow true (.dict ks ds))) => if ks.length ≤ 1000000 then some (ks, ds) else none
 | _ => none
set_option tactic.hygienic true in
theorem OC {ρ : AEnv} {i : Nat} {p : List (List Int) × List D} (h : JO ρ i = some p) : ρ[i]? = some (some (.ow true (.dict p.1 p.2))) ∧ p.1.length ≤ 1000000 := by
 unfold JO at h
 split at h
 ·rename_i ks ds e
  split at h
  ·rename_i hl; cases h; exact ⟨e, hl⟩
  ·cases h
 ·cases h
section
variable {G : Gd} {cx : Cx} {sc : Scope} {ρ : AEnv} {S : Addr → Prop} {h : Heap} {k : Nat}
theorem Rel.dict {i : Nat} {x : Str} {m : Bool} {ks : List (List Int)} {ds : List D} (r : Rel G cx sc ρ S h) (hx : (Qf sc)[i]? = some x) (e : ρ[i]? = some (some (.ow m (.dict ks ds)))) :
  ∃ a, Var cx.env h x (.ref a) ∧ DictAt S h a ks ds ∧ cx.env.locals ≠ a ∧ ¬ S a := by
 obtain ⟨v, hv, a, rfl, n1, ow, n2⟩ := r.vars i x _ hx e
 refine ⟨a, hv, ow, ?_, n1⟩
 rintro rfl
 exact r.dok i x m ks ds hx e hv
theorem RB.row {v : Value} {d : D} {kk : List Int} (q : RB S h v d) (e : Yr d = some kk) : ∃ a, v = .ref a ∧ RV S h (.ref a) (Yv kk) := by
 rw [Fu e] at q
 have q := q.rv fun ds e => by cases e
 unfold Yv at q ⊢
 cases q with
 | tup e hc hd r => exact ⟨_, rfl, .tup e hc hd r⟩
theorem CxOk.units (ok : CxOk G cx sc k) : cx.A.units + 1 < cLine := by
 have := ok.room.2
 show cx.A.units + 1 < 9900
 lia
theorem Bz {δ : Type} {s : Shared} {l : Expr} {x : Str} {p : Pos} {f : AEnv → Res Bv} {i : Nat} {n : Value → Value → Sem δ} {β : Type} {J : (Addr → Prop) → Heap → δ → β → Prop} {K : List Int → List (List Int) → List D → AEnv → Res β} (hl : Qh G k sc l f) (hx : (Qf sc)[i]? = some x) (hd : (x == ("__debug__" : Str)) = false) (hn : (x == ("__classdict__" : Str)) = false) (ok : CxOk G cx sc k) (rel : Rel G cx sc ρ S s.heap)
  (h : ∀ ρ' S' h' tk a d kk ks ds, Rel G cx sc ρ' S' h' → RV S' h' (.ref a) (Yv kk) → DictAt S' h' d ks ds → Qk G cx sc true (n (.ref a) (.ref d)) S' { s with heap := h', toks := tk } J (K kk ks ds ρ')) :
  Qk G cx sc true (do let a ← eval l cx.env; let b ← holding [a] (eval (.Name x p) cx.env); n a b) S s J ((f ρ).bind fun b ρ₁ => ob (b.get ρ₁) fun y => ob (Zp ρ₁ i) fun q => ob (Yr y) fun kk => K kk q.1 q.2 ρ₁) := by
 refine Qk.bind (hl cx ok ρ S s rel) fun b ρ₁ va h₁ t₁ S₁ _ rel₁ ja x₁ v₁ => Qk.ob fun y hy => Qk.ob fun q hq => Qk.ob fun kk hk => ?_
 obtain ⟨m, e⟩ := US hq
 obtain ⟨a, rfl, rv⟩ := (ZT.rb ja rel₁ hy).row hk
 obtain ⟨d, hv, da, _, _⟩ := rel₁.dict hx e
 intro Q E out
 refine wpAny_bind (wpAny_holding (wpAny_Name (Xr (ok.mono (Nat.zero_le _)) hv hn rfl ?_) hd))
 exact h ρ₁ S₁ h₁ t₁ a d kk q.1 q.2 rel₁ rv da Q E out
theorem Gc {δ : Type} {s : Shared} {l : Expr} {x : Str} {p : Pos} {f : AEnv → Res Bv} {i : Nat} {n : Value → Value → Sem δ} {β : Type} {J : (Addr → Prop) → Heap → δ → β → Prop} {K : List Int → List (List Int) → List D → AEnv → Res β} (hl : Qh G k sc l f) (hx : (Qf sc)[i]? = some x) (hd : (x == ("__debug__" : Str)) = false) (hn : (x == ("__classdict__" : Str)) = false) (ok : CxOk G cx sc k) (rel : Rel G cx sc ρ S s.heap)
  (h : ∀ ρ' S' h' tk a d kk ks ds, Rel G cx sc ρ' S' h' → RV S' h' (.ref a) (Yv kk) → DictAt S' h' d ks ds → Qk G cx sc true (n (.ref d) (.ref a)) S' { s with heap := h', toks := tk } J (K kk ks ds ρ')) :
  Qk G cx sc true (do let b ← eval (.Name x p) cx.env; let a ← holding [b] (eval l cx.env); n b a) S s J (ob (Zp ρ i) fun _ => (f ρ).bind fun b ρ₁ => ob (b.get ρ₁) fun y => ob (Zp ρ₁ i) fun q => ob (Yr y) fun kk => K kk q.1 q.2 ρ₁) := by
 refine Qk.ob fun q₀ hq₀ => ?_
 obtain ⟨m₀, e₀⟩ := US hq₀
 obtain ⟨d₀, hv₀, _, _, _⟩ := rel.dict hx e₀
 intro Q E out
 refine wpAny_bind (wpAny_Name (Xr (ok.mono (Nat.zero_le _)) hv₀ hn rfl ?_) hd)
 refine (Qk.bind (J' := J) (k := fun a => n (.ref d₀) a) (Qk.holding (hl cx ok ρ S s rel)) fun b ρ₁ va h₁ t₁ S₁ _ rel₁ ja x₁ v₁ => Qk.ob fun y hy => Qk.ob fun q hq => Qk.ob fun kk hk => ?_) Q E out
 obtain ⟨m, e⟩ := US hq
 obtain ⟨a, rfl, rv⟩ := (ZT.rb ja rel₁ hy).row hk
 obtain ⟨d, hv, da, _, _⟩ := rel₁.dict hx e
 cases Var.inj hv (v₁ rfl x _ hv₀)
 exact h ρ₁ S₁ h₁ t₁ a _ kk q.1 q.2 rel₁ rv da
noncomputable def Ff (neg : Bool) (f : AEnv → Res Bv) (i : Nat) : AEnv → Res T := fun ρ => (f ρ).bind fun b ρ₁ => ob (b.get ρ₁) fun y => ob (Zp ρ₁ i) fun q => ob (Yr y) fun kk => .ok (.sh (.bool ((QB kk q.1).isSome != neg))) ρ₁
noncomputable def Di (neg : Bool) (f : AEnv → Res Bv) (i : Nat) : AEnv → Res Bool := fun ρ => (f ρ).bind fun b ρ₁ => ob (b.get ρ₁) fun y => ob (Zp ρ₁ i) fun q => ob (Yr y) fun kk => .ok ((QB kk q.1).isSome != neg) ρ₁
noncomputable def Ki (i : Nat) (f : AEnv → Res Bv) : AEnv → Res T := fun ρ => ob (Zp ρ i) fun _ => (f ρ).bind fun b ρ₁ => ob (b.get ρ₁) fun y => ob (Zp ρ₁ i) fun q => ob (Yr y) fun kk => ob (QB kk q.1) fun j => ob q.2[j]? fun d => .ok (.sh d) ρ₁
theorem FI {s : Shared} {a d : Addr} {kk : List Int} {ks : List (List Int)} {ds : List D} (ok : CxOk G cx sc k) (rel : Rel G cx sc ρ S s.heap) (rv : RV S s.heap (.ref a) (Yv kk)) (da : DictAt S s.heap d ks ds) :
  Qk G cx sc true (compareOp .In (.ref a) (.ref d)) S s (fun S' h' v t => Yp cx S' h' v t) (.ok (.sh (.bool ((QB kk ks).isSome != false))) ρ) := fun Q E out => by
 refine IN ok.units rv da ?_
 have := out (.bool ((QB kk ks).isSome != false)) s.heap (s.toks + (kk.length + 1)) S rel (.bool _) (Ext.refl ..) fun _ => Qq.refl _ _
 rw [Bool.bne_false] at this; exact this
theorem CB {s : Shared} {a d : Addr} {kk : List Int} {ks : List (List Int)} {ds : List D} (ok : CxOk G cx sc k) (rel : Rel G cx sc ρ S s.heap) (rv : RV S s.heap (.ref a) (Yv kk)) (da : DictAt S s.heap d ks ds) :
  Qk G cx sc true (compareOp .NotIn (.ref a) (.ref d)) S s (fun S' h' v t => Yp cx S' h' v t) (.ok (.sh (.bool ((QB kk ks).isSome != true))) ρ) := fun Q E out => by
 refine G1 ok.units rv da ?_
 have := out (.bool ((QB kk ks).isSome != true)) s.heap (s.toks + (kk.length + 1)) S rel (.bool _) (Ext.refl ..) fun _ => Qq.refl _ _
 rw [Bool.bne_true] at this; exact this
end
section
variable {G : Gd} {k : Nat} {sc : Scope}
theorem Gh {l : Expr} {x : Str} {p pos : Pos} {f : AEnv → Res Bv} {i : Nat} (hl : Qh G k sc l f) (hx : autoParam ((Qf sc)[i]? = some x) aK._auto_1) (hd : autoParam ((x == ("__debug__" : Str)) = false) aK._auto_1) (hn : autoParam ((x == ("__classdict__" : Str)) = false) aK._auto_1) (hm : autoParam (behindInMarks .In (.Name x p) = false) aK._auto_1) : Sim G k sc (.Compare l [.In] [.Name x p] pos) (Ff false f i) := by
 intro cx ok ρ S s rel
 rw [eval_Compare1, markedBehindIn_of_false hm]
 exact Bz (K := fun kk ks _ ρ₁ => Res.ok (T.sh (.bool ((QB kk ks).isSome != false))) ρ₁) hl hx hd hn ok rel fun ρ' S' h' tk a d kk ks ds r rv da => Qk.standAt (Qk.operate (FI (s := { s with heap := h', toks := tk }) ok r rv da))
theorem Cj {l : Expr} {x : Str} {p pos : Pos} {f : AEnv → Res Bv} {i : Nat} (hl : Qh G k sc l f) (hx : autoParam ((Qf sc)[i]? = some x) aK._auto_1) (hd : autoParam ((x == ("__debug__" : Str)) = false) aK._auto_1) (hn : autoParam ((x == ("__classdict__" : Str)) = false) aK._auto_1) (hm : autoParam (behindInMarks .NotIn (.Name x p) = false) aK._auto_1) : Ju G k sc (.Compare l [.NotIn] [.Name x p] pos) (Di true f i) := by
 intro cx ok ρ S s rel
 rw [isTrue_Compare1, markedBehindIn_of_false hm]
 exact Bz (K := fun kk ks _ ρ₁ => .ok ((QB kk ks).isSome != true) ρ₁) hl hx hd hn ok rel fun ρ' S' h' tk a d kk ks ds r rv da => Qk.standAt (Wn (vs := fun c => [c]) (Qk.operate (vs := [.ref a, .ref d]) (CB (s := { s with heap := h', toks := tk }) ok r rv da)))
theorem BB {l : Expr} {x : Str} {p pos : Pos} {f : AEnv → Res Bv} {i : Nat} (hl : Qh G k sc l f) (hx : autoParam ((Qf sc)[i]? = some x) aK._auto_1) (hd : autoParam ((x == ("__debug__" : Str)) = false) aK._auto_1) (hn : autoParam ((x == ("__classdict__" : Str)) = false) aK._auto_1) (hs : autoParam (∀ o i, subscripted l false o i = operate [o, i] (getItem o i)) aJ._auto_1) :
  Sim G k sc (.Subscript (.Name x p) l pos) (Ki i f) := by
 intro cx ok ρ S s rel
 show Qk G cx sc true (do let a ← eval (.Name x p) cx.env; let b ← holding [a] (eval l cx.env); standAt pos; subscriptTail (.Name x p) l a b) S s _ _
 refine Gc (K := fun kk ks ds ρ₁ => ob (QB kk ks) fun j => ob ds[j]? fun d => Res.ok (T.sh d) ρ₁) hl hx hd hn ok rel fun ρ' S' h' tk a d kk ks ds r rv da => ?_
 refine Qk.standAt (Qk.ob fun j hj => Qk.ob fun d'' hd'' => ?_)
 intro Q E out
 refine tail_any (s := { s with heap := h', toks := tk }) da.typeIs slot_dict_getitem.lookup ?_ (hs _ _)
 refine HG (s := { s with heap := h', toks := tk }) ok.units rv da hj fun v d' e1 e2 => ?_
 obtain rfl := Option.some.inj (hd''.symm.trans e1)
 exact out v h' _ S' r e2 (Ext.refl ..) fun _ => Qq.refl _ _
theorem Ks {o : Obj} {es : Array DictEntry} {n : Nat} (h : o.data = .dict es n) : ¬ Imm o := by
 rintro (⟨_, vs, m, q⟩ | ⟨vs, q⟩) <;> (rw [h] at q; cases q)
theorem Rel.stored {cx : Cx} {ρ : AEnv} {S : Addr → Prop} {h h' : Heap} {i : Nat} {x : Str} {ks ks' : List (List Int)} {ds ds' : List D} {a : Addr} {vs : List Value} (r : Rel G cx sc ρ S h) (bh : G.B.StaysIn cx.h₀) (hx : (Qf sc)[i]? = some x) (e : ρ[i]? = some (some (.ow true (.dict ks ds)))) (hv : Var cx.env h x (.ref a)) (q : DStored S h a ks' vs h') (rv : RVs S h vs ds') :
  Rel G cx sc (ρ.set i (some (.ow true (.dict ks' ds')))) S h' ∧ Ext S h S h' ∧ Qq cx.env h h' := by
 obtain ⟨but, ⟨o, es, n, e1, e2⟩, ⟨o', es', n', e3, e4⟩, at_⟩ := q
 obtain ⟨a', hv', _, hl, _⟩ := r.dict hx e
 cases Var.inj hv hv'
 exact r.turn bh hx e hv e1 (Ks e2) (by rw [e2]; intro v q; cases q) hl but e3 (fun _ => ⟨es', n', e4⟩) (fun _ => ⟨ks, ds, rfl⟩) fun x' => at_ ds' x' rv
theorem RVs.dset {S : Addr → Prop} {h : Heap} {vs : List Value} {ds : List D} {v : Value} {d : D} {kk : List Int} {ks : List (List Int)} (r : RVs S h vs ds) (q : RV S h v d) : RVs S h (match QB kk ks with | some j => vs.set j v | none => vs ++ [v]) (VK kk d ks ds) := by
 unfold VK
 cases QB kk ks with
 | some j => exact RVs.set q r j
 | none => exact RVs.append (.cons q .nil) r
noncomputable def Uf (i : Nat) (f : AEnv → Res Bv) (g : AEnv → Res T) : AEnv → Res Fl := fun ρ => (g ρ).bind fun t ρ₁ => ob (JO ρ₁ i) fun _ => (f ρ₁).bind fun b ρ₂ => ob (b.get ρ₂) fun y => ob (JO ρ₂ i) fun q => ob (Yr y) fun kk => .ok .next (ρ₂.set i (some (.ow true (.dict (VD kk q.1) (VK kk t.val q.1 q.2)))))
theorem Vz {x : Str} {p ip pos : Pos} {ix value : Expr} {i : Nat} {f : AEnv → Res Bv} {g : AEnv → Res T} (hf : Qh G k sc ix f) (hg : Sim G k sc value g) (hx : autoParam ((Qf sc)[i]? = some x) aK._auto_1) (hd : autoParam ((x == ("__debug__" : Str)) = false) aK._auto_1) (hn : autoParam ((x == ("__classdict__" : Str)) = false) aK._auto_1)
  (hs : autoParam (∀ env : Env, env.scope = sc → swapsWithSole [.Subscript (.Name x p) ix ip] value pos.line env = pure false) aJ._auto_1) (hw : autoParam (∀ env : Env, swappedStores [.Subscript (.Name x p) ix ip] value env = pure none) aI._auto_1) :
  YY G k sc (.Assign [.Subscript (.Name x p) ix ip] value pos) (Uf i f g) := by
 intro cx ok fn ρ S s r Q E out
 rw [exec_Assign]
 refine wpAny_bind (wpAny_standAt ?_)
 rw [hs cx.env ok.hsc]
 refine wpAny_bind (wpAny_pure ?_)
 rw [if_neg (by decide)]
 refine wpAny_bind ((hg cx ok ρ S s r).shared _ _ ?_)
 refine out.step0S fun t ρ₁ out v h₁ t₁ S₁ r₁ j₁ x₁ v₁ => ?_
 rw [hw]
 refine wpAny_bind (wpAny_pure ?_)
 show wpAny _ _ (do assignAll v [assign (.Subscript (.Name x p) ix ip) cx.env]; pure .next) Q E _
 refine wpAny_bind ?_
 show wpAny _ _ (assign (.Subscript (.Name x p) ix ip) cx.env v) _ E _
 rw [arm_assign_Subscript]
 obtain ⟨q₀, h0, out⟩ := out.ob
 obtain ⟨t0, l0⟩ := OC h0
 obtain ⟨a, hv, _, _, _⟩ := r₁.dict hx t0
 refine wpAny_bind (wpAny_holding (wpAny_Name (Xr (ok.mono (Nat.zero_le _)) hv hn rfl ?_) hd))
 refine wpAny_bind (wpAny_holding (hf cx ok ρ₁ S₁ { s with heap := h₁, toks := t₁ } r₁ _ _ (out.step x₁ fun b ρ₂ out iv h₂ t₂ S₂ r₂ j₂ x₂ v₂ => ?_)))
 refine wpAny_bind (wpAny_standAt ?_)
 obtain ⟨y, hy, out⟩ := out.ob
 obtain ⟨q, h1, out⟩ := out.ob
 obtain ⟨kk, hk, out⟩ := out.ob
 obtain ⟨ak, rfl, rvk⟩ := (ZT.rb j₂ r₂ hy).row hk
 obtain ⟨e1, l1⟩ := OC h1
 obtain ⟨a', hv', da, _, _⟩ := r₂.dict hx e1
 cases Var.inj hv' (v₂ rfl x _ hv)
 refine wpAny_bind (wpAny_holding (Ig (s := { s with heap := h₂, toks := t₂ }) ok.units rvk da l1 fun h₃ vs rvs st => ?_))
 obtain ⟨r₃, x₃, v₃⟩ := r₂.stored fn.bh hx e1 hv' st (rvs.dset (j₁.ext x₂))
 exact wpAny_release (wpAny_pure (out .next _ _ S₂ r₃ trivial ((x₁.trans x₂).trans x₃) fun z => by cases z))
noncomputable def DC (i : Nat) : AEnv → Res Fl := fun ρ => .ok .next (ρ.set i (some (.ow true (.dict [] []))))
theorem VG (hG : G.Ok) {x : Str} {p ep pos : Pos} {i : Nat} (hx : autoParam ((Qf sc)[i]? = some x) aK._auto_1) (hk : sc.names.lookup x = some .local ∨ sc.names.lookup x = some .cell := by first | exact .inl (by kernel_rfl) | exact .inr (by kernel_rfl))
  (hcl : autoParam (X3 x = false) aK._auto_1) (hs : autoParam (∀ env : Env, env.scope = sc → swapsWith (.Dict [] [] ep) (some (.Name x p)) pos.line env = pure false) aJ._auto_1) : YY G k sc (.Assign [.Name x p] (.Dict [] [] ep) pos) (DC i) := by
 intro cx ok fn ρ S s r Q E out
 rw [exec_Assign_Name _ _ _ _ _ (hs cx.env ok.hsc)]
 refine wpAny_bind (wpAny_standAt (wpAny_bind ?_))
 rw [eval_Dict_empty]
 refine wpAny_bind (wpAny_standAt ?_)
 unfold newDict
 refine wpAny_newObj_type ?_ (by unfold sizeOk; simp)
 have hn : s.heap.get? s.heap.objs.size = none := Heap.get?_none_of_le (Nat.le_refl _)
 have he : (s.heap.push { cls := .type "dict", data := .dict #[] }).get? s.heap.objs.size = some { cls := .type "dict", data := .dict #[] } := Heap.get?_push_size _ rfl
 have kp : ∀ b o, s.heap.get? b = some o → (s.heap.push { cls := .type "dict", data := .dict #[] }).get? b = some o := fun b o e => Heap.get?_push_of_some _ e
 have r₁ := r.keeps kp
 have hsz : 3 < s.heap.objs.size := by
  obtain ⟨o, es, ep, e, _⟩ := hG.g
  exact Heap.lt_size (r.base _ _ e)
 refine wpAny_bind (wpAny_standAt ?_)
 refine wpAny_bind (U4 (s := { s with heap := s.heap.push { cls := .type "dict", data := .dict #[] } }) (t := .ow true (.dict [] [])) (ok.mono (Nat.zero_le _)) fn r₁ hx hk (.inl hcl) ⟨_, rfl, ?_, ?_, r.keep.none hn, fun y hdy q => ?_, fun _ => ?_⟩ _ _ ?_)
 ·intro q; obtain ⟨o, e⟩ := r.sdom _ q; rw [hn] at e; cases e
 ·have hne : s.heap.objs.size ≠ sysModules := by unfold sysModules; exact Nat.ne_of_gt (Nat.lt_of_lt_of_le (by decide) hsz)
  exact ⟨_, _, _, [], he, ⟨rfl, rfl⟩, rfl, rfl, rfl, .nil, (fun x hx => by cases hx), .nil, by simpa using hne⟩
 ·obtain ⟨o, e⟩ := r.live y _ hdy (Var.of_kp (.of_keeps kp) r.ns r.cells q)
  rw [hn] at e; cases e
 ·rintro q
  obtain ⟨m, o, _, _, e, _⟩ := r.ns
  rw [← q, hn] at e; cases e
 ·intro _ h₂ t₂ S₂ r₂ _ x₂ v₂
  exact wpAny_pure (out .next h₂ t₂ S₂ r₂ trivial ((Ext.of_keeps kp).trans x₂) fun z => by cases z)
end
theorem Vt {h : Heap} {dx : Addr} {o : Obj} {m : Str → Option Value} (hn : h.Ns dx m) (e : h.get? dx = some o) (n : Str) : W.lookIn n o = some (m n) := by
 obtain ⟨o', es, ep, e', hd, sk, hf⟩ := hn
 rw [e] at e'; cases e'
 unfold W.lookIn
 rw [hd]
 have hf := hf n
 unfold nsFind findBy at hf
 rw [← Array.find?_toList] at hf
 dsimp only
 cases q : es.toList.find? (fun e => e.key.isStr n) with
 | some en => rw [q] at hf; exact congrArg some hf
 | none =>
  rw [q] at hf
  dsimp only
  rw [if_neg]
  ·exact congrArg some hf
  ·intro hr
   obtain ⟨en, hm, hk⟩ := List.any_eq_true.mp hr
   obtain ⟨n', t, hk'⟩ := sk en (Array.mem_toList_iff.mp hm)
   unfold DictEntry.refKey at hk
   rw [hk'] at hk
   cases hk
noncomputable def Oz (n : Str) : List Str → List D → Option D
 | x :: xs, d :: ds => if x = n then some d else Oz n xs ds
 | _, _ => none
noncomputable def WT : D → Bool
 | .glob _ => false
 | _ => true
set_option tactic.hygienic true in
theorem Fw {S : Addr → Prop} {h : Heap} {m : Str → Option Value} {n : Str} {d : D} : ∀ {ns : List Str} {vs : List Value} {ds : List D}, ns.map m = vs.map some → RVs S h vs ds → Oz n ns ds = some d → ∃ v, m n = some v ∧ RV S h v d := by
 intro ns
 induction ns with
 | nil => intro vs ds _ _ e; cases e
 | cons x xs ih =>
  intro vs ds hm rv e
  cases rv with
  | nil => cases e
  | cons q r =>
   simp only [List.map_cons, List.cons.injEq] at hm
   rw [Oz] at e
   split at e
   ·rename_i hx; cases e; subst hx; exact ⟨_, hm.1, q⟩
   ·exact ih hm.2 r e
theorem RV.inst {S : Addr → Prop} {h : Heap} {v : Value} {C : Addr} {ns : List Str} {ds : List D} (q : RV S h v (.obj C ns ds)) : ∃ a dx od m vs, v = .ref a ∧ h.get? dx = some od ∧ h.Ns dx m ∧ (ns.map m = vs.map some ∧ ∀ y, y ∉ ns → m y = Option.none) ∧ RVs S h vs ds ∧ W.InstAt h a (W.instObj C dx) C (some od) := by
 cases q with
 | obj s1 s2 e n hm r =>
  obtain ⟨o, es, ep, ho, hd, rest⟩ := n
  exact ⟨_, _, o, _, _, rfl, ho, ⟨o, es, ep, ho, hd, rest⟩, hm, r, e, rfl, rfl, ho⟩
theorem RV.handed {S : Addr → Prop} {h : Heap} {v : Value} {d : D} (q : RV S h v d) (hg : WT d = true) : W.handedIn v = true := by
 cases q <;> first | rfl | cases hg
theorem Cy {K : W.Frag} {C : Addr} {o : Obj} {n : Str} {v : Value} (hc : (W.clsIn K C).any (·.hasDict) = true) (hf : W.findIn K (.ref C) n = some none) (hl : W.lookIn n o = some (some v)) : W.findObj K C (some o) n = some (.value v) := by
 obtain ⟨cd, hcd, hd⟩ := W.any_some hc
 unfold W.findObj W.ownOf
 rw [hcd, hf]
 simp [hd, hl]
section
variable {G : Gd} {k : Nat} {sc : Scope}
noncomputable def Om (C : Addr) (n : Str) (i : Nat) : AEnv → Res T := fun ρ => match ρ[i]? with
 | some (some (.sh (.obj C' ns ds))) => if C' = C then (match Oz n ns ds with
  | some d => if WT d then .ok (.sh d) ρ else .stuck
  | none => .stuck) else .stuck
 | _ => .stuck
set_option tactic.hygienic true in
theorem Fm (hG : G.Ok) {C : Addr} {n x : Str} {p pos : Pos} {i : Nat} (hx : autoParam ((Qf sc)[i]? = some x) aK._auto_1) (hd : autoParam ((x == ("__debug__" : Str)) = false) aK._auto_1) (hn : autoParam ((x == ("__classdict__" : Str)) = false) aK._auto_1)
  (hga : autoParam (W.findIn G.K (.ref C) "__getattribute__" = some (some (.builtin "object.__getattribute__"))) aK._auto_1) (hc : autoParam ((W.clsIn G.K C).any (·.hasDict) = true) aK._auto_1) (hf : autoParam (W.findIn G.K (.ref C) n = some none) aK._auto_1) :
  Sim G k sc (.Attribute (.Name x p) n pos) (Om C n i) := by
 intro cx ok ρ S s r Q E out
 unfold Om at out
 split at out
 ·rename_i C' ns ds ht
  split at out
  ·rename_i hC
   subst hC
   split at out
   ·rename_i d hd'
    split at out
    ·rename_i hg
     obtain ⟨v, hv, tv⟩ := r.vars i x _ hx ht
     obtain ⟨a, dx, od, m, vs, rfl, e2, e3, e4, rv, I⟩ := RV.inst tv
     obtain ⟨u, hu, ru⟩ := Fw e4.1 rv hd'
     rw [arm_eval_Attribute]
     show wpAny _ _ (eval (.Name x p) cx.env >>= _) _ _ _
     refine wpAny_bind (wpAny_Name (Xr (ok.mono (Nat.zero_le _)) hv hn rfl ?_) hd)
     refine wpAny_bind (wpAny_standAt (wpAny_bind (wpAny_holding (W.get_value (hG.K.keeps r.base) I hga (Cy hc hf (by rw [Vt e3 e2, hu])) (ru.handed hg) ?_))))
     exact wpAny_bind (wpAny_pure (wpAny_pure (out u s.heap _ S r ru (Ext.refl ..) fun _ => Qq.refl _ _)))
    ·exact out.elim
   ·exact out.elim
  ·exact out.elim
 ·exact out.elim
noncomputable def EB (C : Addr) (n : Str) (i : Nat) (F : List D → FOut) (fa : AEnv → Res (List Bv)) : AEnv → Res T := fun ρ => match ρ[i]? with
 | some (some (.sh (.obj C' ns _))) => if C' = C ∧ n ∉ ns then (fa ρ).bind fun bs ρ₁ => (match XN ρ₁ (.var i :: bs) with
  | some ds => Yl (.var i :: bs) ρ₁ (F ds)
  | none => .stuck) else .stuck
 | _ => .stuck
set_option tactic.hygienic true in
theorem G5 (hG : G.Ok) {C f : Addr} {n x : Str} {p apos pos : Pos} {i k' : Nat} {fo : Obj} {fd : FuncData} {F : List D → FOut} {args : List Expr} {fa : AEnv → Res (List Bv)} (hF : ZA G k' (.ref f) F) (hk : k' ≤ k) (hfo : G.B.get? f = some fo) (hfd : fo.data = .func fd) (ha : Ji G k sc args fa) (hu : args.all QS = true)
  (hx : (Qf sc)[i]? = some x) (hd : (x == ("__debug__" : Str)) = false) (hn : (x == ("__classdict__" : Str)) = false)
  (hfew : ∀ env, ((backTo pos (starEach args env)).all (fun x => !x.1) && (backToKw pos (keywordEach [] env)).all (fun x => x.1.isSome) && decide (args.length + ([] : List Keyword).length + (if ([] : List Keyword).isEmpty then 0 else 1) < 30)) = true) (hline : (apos.endLine == pos.line) = true)
  (hga : W.findIn G.K (.ref C) "__getattribute__" = some (some (.builtin "object.__getattribute__"))) (hgt : W.findIn G.K (.ref C) "__getattr__" = some none) (hf : W.findIn G.K (.ref C) n = some (some (.ref f))) (hty : W.typeIn G.K (.ref f) = some (.type "function")) :
  Sim G k sc (.Call (.Attribute (.Name x p) n apos) args [] pos) (EB C n i F fa) := by
 intro cx ok ρ S s r Q E out
 unfold EB at out
 split at out
 ·rename_i C' ns ds ht
  split at out
  ·rename_i hC
   obtain ⟨rfl, hns⟩ := hC
   obtain ⟨v, hv, tv⟩ := r.vars i x _ hx ht
   obtain ⟨a, dx, od, m, vs, rfl, e2, e3, e4, rv, I⟩ := RV.inst tv
   rw [arm_eval_Call]
   show wpAny _ _ (eval (.Name x p) cx.env >>= _) _ _ _
   refine wpAny_bind (wpAny_Name (Xr (ok.mono (Nat.zero_le _)) hv hn rfl ?_) hd)
   refine wpAny_bind (wpAny_standAt ?_)
   have hform : methodCallForm (args.length + ([] : List Keyword).length) (backTo pos (starEach args cx.env)) (backToKw pos (keywordEach [] cx.env)) = true := hfew cx.env
   have hpos : methodCallPos true (.Name x p) cx.env apos pos = pure pos := by unfold methodCallPos; simp [hline]
   unfold methodCall
   rw [hform]
   refine wpAny_bind (wpAny_holding (W.method_fn (hG.K.keeps r.base) I hga hgt hf hty (by show Option.map _ (W.lookIn n od) = _; rw [Vt e3 e2, e4.2 n hns]; rfl) ?_))
   refine wpAny_bind (wpAny_of_eq hpos ?_)
   refine Calls.callWith_function (o := fo) (fd := fd) (X1 hu ?_)
   refine ha pos cx ok ρ S s r _ _ ?_
   refine out.step0 fun bs ρ' out ws h₂ t₂ S₂ r₂ j₂ x₂ v₂ => ?_
   refine ⟨⟨r₂.base _ _ hfo, hfd⟩, ?_⟩
   split at out
   ·rename_i es hes
    refine On (s := { s with heap := h₂, toks := t₂ }) hF ok hk r₂ (.cons (b := .var i) ⟨x, hx, v₂ rfl x _ hv⟩ j₂) hes Q E ?_
    exact out.lift (x₂) fun q => (v₂ q)
   ·exact out.elim
  ·exact out.elim
 ·exact out.elim
end
inductive IOut where
 | ok (ds : List D)
 | exc (C : Addr)
 | stuck
noncomputable def G3 : Option T → Bool
 | some (.ow _ _) => false
 | _ => true
noncomputable def Kw (ρ : AEnv) : Bool := ρ.all G3
theorem WX {ρ : AEnv} (h : Kw ρ = true) {i : Nat} {m : Bool} {d : D} (e : ρ[i]? = some (some (.ow m d))) : False := by
 have := List.all_eq_true.mp h _ (List.mem_of_getElem? e)
 cases this
noncomputable def FP : T → Bool
 | .ow _ _ => true
 | .sh (.int _) => true
 | _ => false
theorem Yp.new {cx : Cx} {S : Addr → Prop} {h : Heap} {v : Value} {t : T} (q : Yp cx S h v t) (hn : FP t = true) {b : Addr} (e : v = .ref b) : cx.h₀.get? b = none := by
 cases t with
 | ow m d => obtain ⟨a, e', _, _, n, _⟩ := q; rw [e] at e'; cases e'; exact n
 | sh d =>
  cases d with
  | int i => subst e; cases q
  | _ => cases hn
noncomputable def Zl : List (Str × (AEnv → Res T)) → AEnv → Option (List D)
 | [], ρ => if Kw ρ then some [] else none
 | (_, f) :: fs, ρ => if Kw ρ then (match f ρ with
  | .ok t ρ₁ => if FP t then (Zl fs ρ₁).map (t.val :: ·) else none
  | _ => none) else none
theorem KS {ts : List (Str × (AEnv → Res T))} {ρ : AEnv} {ds : List D} (h : Zl ts ρ = some ds) : Kw ρ = true := by
 cases ts with
 | nil => rw [Zl] at h; split at h; assumption; cases h
 | cons a ts => obtain ⟨n, f⟩ := a; rw [Zl] at h; split at h; assumption; cases h
noncomputable def DX (i₀ : Nat) (pre : AEnv → Res Fl) (ts : List (Str × (AEnv → Res T))) (x : Addr) (ρ : AEnv) : IOut := match pre ρ with
 | .ok .next ρ₁ => (match ρ₁[i₀]? with
  | some (some (.sh (.glob (.ref y)))) => if y = x then (match Zl ts ρ₁ with
   | some ds => .ok ds
   | none => .stuck) else .stuck
  | _ => .stuck)
 | .exc C _ => .exc C
 | _ => .stuck
section
variable {G : Gd} {cx : Cx} {sc : Scope} {ρ : AEnv} {S : Addr → Prop} {h h' : Heap} {k : Nat}
abbrev Cx.at (cx : Cx) (g : Heap) : Cx := { cx with h₀ := g }
theorem Rel.rebase {g g' : Heap} {dx : Addr} {o₁ o₂ : Obj} (r : Rel G (cx.at g) sc ρ S h) (hsh : Kw ρ = true) (e₁ : h.get? dx = some o₁) (hi : ¬ Imm o₁) (hcl : ∀ v, o₁.data ≠ .cell v) (hS : ¬ S dx) (hl : dx ≠ cx.env.locals) (hB : G.B.get? dx = none) (hff : ∀ env ∈ cx.fs, env.frame ≠ some dx)
  (k : Heap.SameBut dx h h') (e₂ : h'.get? dx = some o₂) (gk : ∀ b, b ≠ dx → g'.get? b = g.get? b) (gd : g'.get? dx = some o₂) (g0 : ∃ o, g.get? dx = some o) :
  Rel G (cx.at g') sc ρ S h' ∧ Ext S h S h' ∧ Qq cx.env h h' := by
 have x' : Ext S h S h' := RV.but e₁ hi hS (fun b o hb eb => (k.2 b hb).trans eb) ⟨_, e₂⟩
 have nsame : ∀ m, h.Ns cx.env.locals m → h'.Ns cx.env.locals m := fun m n => n.sameBut k (Ne.symm hl)
 have cne : ∀ y c, cx.env.cells.lookup y = some c → c ≠ dx := fun y c q => by
  rintro rfl
  obtain ⟨v, o, e'', hd'⟩ := r.cells y _ q
  rw [e₁] at e''; cases e''; exact hcl _ hd'
 have csame : ∀ y c, cx.env.cells.lookup y = some c → ∀ w, h.IsCell c w → h'.IsCell c w := fun y c q w n => n.sameBut k (cne y c q)
 have same : Qq cx.env h h' := fun y w q => by
  rcases q with ⟨a, m₁, b, c⟩ | ⟨a, c, b, d⟩
  ·exact .inl ⟨a, m₁, nsame m₁ b, c⟩
  ·exact .inr ⟨a, c, b, csame y c b _ d⟩
 have hf : ∀ y w, Var cx.env h' y w → Var cx.env h y w := fun y w q => by
  rcases q with ⟨a, m₁, b, c⟩ | ⟨a, c, b, d⟩
  ·obtain ⟨m₀, n₀⟩ := r.ns
   exact .inl ⟨a, m₀, n₀, by rw [(nsame m₀ n₀).agree b y]; exact c⟩
  ·obtain ⟨w₀, n₀⟩ := r.cells y c b
   exact .inr ⟨a, c, b, by rw [IsCell.inj d (csame y c b _ n₀)]; exact n₀⟩
 refine ⟨⟨fun b o q => (k.2 b (by rintro rfl; rw [hB] at q; cases q)).trans (r.base b o q), fun b o q => ?_, fun env he => ?_, let ⟨m, n⟩ := r.ns; ⟨m, nsame m n⟩, fun y c q => let ⟨w, n⟩ := r.cells y c q; ⟨w, csame y c q w n⟩, fun b q => let ⟨o, eo⟩ := r.sdom b q; x'.dom b o eo, fun b q => ?_, r.sloc, r.scell, fun y b hdy q => let ⟨o, eo⟩ := r.live y b hdy (hf y _ q); x'.dom b o eo,
  fun i y m d _ hj => (WX hsh hj).elim, fun v q => let ⟨C, e⟩ := r.hok v q; ⟨C, e.ext x'⟩, fun j y u hy hu => ?_, fun j l y z m m' d d' u hy hz hj hl a b => (WX hsh hj).elim, fun i y m ks ds _ hj => (WX hsh hj).elim⟩, x', same⟩
 ·by_cases hb : b = dx
  ·subst hb
   have q : g'.get? b = some o := q
   rw [gd] at q; cases q
   exact ⟨o₂.slots, e₂, fun _ => rfl⟩
  ·have q : g'.get? b = some o := q
   rw [gk b hb] at q
   obtain ⟨sl, q₁, k₁⟩ := r.keep b o q
   exact ⟨sl, (k.2 b hb).trans q₁, k₁⟩
 ·obtain ⟨p, L, o, b, c, d, es, n, q⟩ := r.ff env he
  exact ⟨p, L, o, b, c, (k.2 L (by rintro rfl; exact hff env he b)).trans d, es, n, q⟩
 ·rcases r.sok b q with q' | q'
  ·exact .inl q'
  ·refine .inr ?_
   have q' : g.get? b = none := q'
   show g'.get? b = none
   rw [gk b (by rintro rfl; obtain ⟨o, e⟩ := g0; rw [q'] at e; cases e)]
   exact q'
 ·obtain ⟨w, hw', tw⟩ := r.vars j y u hy hu
  cases u with
  | sh d => exact ⟨w, same y w hw', RV.ext x' tw⟩
  | ow m d => exact (WX hsh hu).elim
inductive STail (G : Gd) (k : Nat) (sc : Scope) (C : Addr) (i₀ : Nat) (sf : Str) : List Stmt → List (Str × (AEnv → Res T)) → Prop
 | nil : STail G k sc C i₀ sf [] []
 | cons {value : Expr} {p ap pos : Pos} {n : Str} {f : AEnv → Res T} {sts : List Stmt} {ts : List (Str × (AEnv → Res T))} : Sim G k sc value f → (∀ env : Env, env.scope = sc → swapsWithSole [.Attribute (.Name sf p) n ap] value pos.line env = pure false) → (∀ env : Env, swappedStores [.Attribute (.Name sf p) n ap] value env = pure none) →
   W.takerIn G.K C n = some none → STail G k sc C i₀ sf sts ts → STail G k sc C i₀ sf (.Assign [.Attribute (.Name sf p) n ap] value pos :: sts) ((n, f) :: ts)
structure TI (G : Gd) (cx : Cx) (sc : Scope) (C x dx : Addr) (sf : Str) (g : Heap) (ρ : AEnv) (S : Addr → Prop) (h : Heap) (ns : List Str) (vs : List Value) (ds : List D) (m : Str → Option Value) : Prop where
 r : Rel G (cx.at g) sc ρ S h
 gk : ∀ b, b ≠ dx → g.get? b = cx.h₀.get? b
 gd : ∃ o, g.get? dx = some o
 xi : cx.h₀.get? x = some (W.instObj C dx)
 xd : x ≠ dx
 pd : ¬ cx.P dx
 bd : G.B.get? dx = none
 ld : dx ≠ cx.env.locals
 fd : ∀ env ∈ cx.fs, env.frame ≠ some dx
 var : Var cx.env h sf (.ref x)
 nsd : h.Ns1 dx m
 hm : ns.map m = vs.map some
 hmn : ∀ y, y ∉ ns → m y = none
 rv : RVs S h vs ds
 new : ∀ b, Value.ref b ∈ vs → cx.h₀.get? b = none
theorem Kp.ns1 {h h' : Heap} (x : Kp h h') {a : Addr} {m : Str → Option Value} (hn : h.Ns1 a m) : h'.Ns1 a m := by
 obtain ⟨o, es, ep, ho, hd, r⟩ := hn
 obtain ⟨sl, e₁, _⟩ := x a o ho
 exact ⟨_, es, ep, e₁, hd, r⟩
set_option tactic.hygienic true in
theorem G8 (hG : G.Ok) {C x dx : Addr} {i₀ : Nat} {sf : Str} (hdb : (sf == ("__debug__" : Str)) = false) (hn : (sf == ("__classdict__" : Str)) = false) (hp : W.plainOver G.K C = true) (hh : (W.clsIn G.K C).any (·.hasDict) = true)
  (hs : W.findIn G.K (.ref C) "__setattr__" = some (some (.builtin "object.__setattr__"))) (ok : CxOk G cx sc k) {E : Value → Shared → Prop} {sts : List Stmt} {ts : List (Str × (AEnv → Res T))} (st : STail G k sc C i₀ sf sts ts) :
  ∀ {g : Heap} {ρ : AEnv} {S : Addr → Prop} {s : Shared} {ns : List Str} {vs : List Value} {ds ds' : List D} {m : Str → Option Value} {Q : Flow → Shared → Prop}, TI G cx sc C x dx sf g ρ S s.heap ns vs ds m → (ns ++ ts.map (·.1)).Nodup → (ns ++ ts.map (·.1)).length ≤ 100 → Zl ts ρ = some ds' →
  (∀ h' tk g' ρ' S' vs' m', TI G cx sc C x dx sf g' ρ' S' h' (ns ++ ts.map (·.1)) vs' (ds ++ ds') m' → (∀ b, S b → S' b) → Q .next { s with heap := h', toks := tk }) → wpAny G.M cx.A (execs sts cx.env) Q E s := by
 induction st with
 | nil =>
  intro g ρ S s ns vs ds ds' m Q ti nd hl ht hQ
  rw [Zl] at ht
  split at ht
  ·cases ht
   rw [execs_nil]
   rw [List.map_nil, List.append_nil, List.append_nil] at hQ
   exact wpAny_pure (hQ s.heap s.toks g ρ S vs m ti fun _ q => q)
  ·cases ht
 | cons hf hsw hw htk _ ih =>
  rename_i value p ap pos n f sts ts _
  intro g ρ S s ns vs ds ds' m Q ti nd hl ht hQ
  have hsh := KS ht
  rw [Zl, if_pos hsh] at ht
  rw [execs_cons]
  refine wpAny_bind ?_
  rw [exec_Assign]
  refine wpAny_bind (wpAny_standAt ?_)
  rw [hsw cx.env ok.hsc]
  refine wpAny_bind (wpAny_pure ?_)
  rw [if_neg (by decide)]
  have ok' : CxOk G (cx.at g) sc k := ⟨ok.hsc, ok.hk, ok.hg, ok.hb, ok.fr, ok.top, ok.hd, ok.room, ok.nodup, fun b o q => (ti.gk b (by rintro rfl; rw [ti.bd] at q; cases q)).trans (ok.bh b o q)⟩
  refine wpAny_bind (hf (cx.at g) ok' ρ S s ti.r _ _ ?_)
  cases hfv : f ρ with
  | stuck => rw [hfv] at ht; cases ht
  | exc C ρ₁ => rw [hfv] at ht; cases ht
  | ok t ρ₁ =>
   rw [hfv] at ht
   obtain ⟨hnw, ht⟩ := ifs ht
   obtain ⟨ds₁, ht₁, rfl⟩ := Option.map_eq_some_iff.mp ht
   intro v h₁ t₁ S₀ r₀ j₀ x₀ v₁
   have fresh : ∀ b, v = .ref b → cx.h₀.get? b = none := fun b e => by
    have q : g.get? b = none := j₀.new hnw e
    rw [← ti.gk b (by rintro rfl; obtain ⟨o, e⟩ := ti.gd; rw [q] at e; cases e)]; exact q
   obtain ⟨S₁, r₁, j₁, x₁'⟩ := r₀.drop j₀
   have x₁ := x₀.trans x₁'
   rw [hw]
   refine wpAny_bind (wpAny_pure ?_)
   show wpAny _ _ (do assignAll v [assign (.Attribute (.Name sf p) n ap) cx.env]; pure Flow.next) _ _ _
   refine wpAny_bind ?_
   show wpAny _ _ (assign (.Attribute (.Name sf p) n ap) cx.env v) _ _ _
   rw [arm_assign_Attribute]
   have hv₁ : Var cx.env h₁ sf (.ref x) := v₁ rfl sf _ ti.var
   refine wpAny_bind (wpAny_holding (wpAny_Name (Xr (cx := cx) (ok.mono (Nat.zero_le _)) hv₁ hn rfl ?_) hdb))
   refine wpAny_bind (wpAny_standAt (wpAny_bind (wpAny_holding ?_)))
   have hx₁ : h₁.get? x = some (W.instObj C dx) := r₁.keep.exact ((ti.gk x ti.xd).trans ti.xi) (fun es m q => by cases q)
   have nd₁ : h₁.Ns1 dx m := by
    obtain ⟨o, es, ep, e, hd, rest⟩ := ti.nsd
    obtain ⟨o₀, e₀⟩ := ti.gd
    obtain ⟨sl, e₁, _⟩ := ti.r.keep dx o₀ e₀
    have e₁ : s.heap.get? dx = some { o₀ with slots := sl } := e₁
    rw [e] at e₁; cases e₁
    obtain ⟨sl', e₂, _⟩ := r₁.keep dx o₀ e₀
    exact ⟨_, es, ep, e₂, hd, rest⟩
   obtain ⟨od, es, ep, ed, hdd, _⟩ := id nd₁
   have I : W.InstAt h₁ x (W.instObj C dx) C (some od) := ⟨hx₁, rfl, rfl, ed⟩
   have X : G.K.In h₁ := hG.K.keeps r₁.base
   refine W.set_plain (s := { s with heap := h₁, toks := t₁ }) X I hs ?_
   refine W.osa_open (s := { s with heap := h₁, toks := t₁ + 1 }) X I hp htk fun b => ?_
   obtain ⟨cd, hc, hd'⟩ := W.any_some hh
   show wpAny _ _ (Builtin.ObjectAttr.storeInOwnDict (.ref x) (.ref C) (.str n t₁) n v b) _ _ _
   unfold Builtin.ObjectAttr.storeInOwnDict
   refine wpAny_bind (wpAny_pure (wpAny_bind (wpAny_bind (wpAny_loadPart hx₁ (wpAny_bind ((W.looks_clsIn X hc).here ?_))))))
   rw [hd']
   refine wpAny_pure (a := some dx) (wpAny_bind (wpAny_pure (wpAny_bind ?_)))
   refine wpAny_nsSet1 (s := { s with heap := h₁, toks := t₁ + 1 }) nd₁ fun h₂ n₂ k₂ => ?_
   have nn : n ∉ ns := fun q => by
    rw [List.map_cons] at nd
    exact (List.nodup_append.mp nd).2.2 n q n (.head _) rfl
   have hmn' : ∀ y, y ∉ ns ++ [n] → (if y = n then some v else m y) = none := fun y hy => by
    rw [List.mem_append, not_or] at hy
    rw [if_neg (by rintro rfl; exact hy.2 (.head _))]
    exact ti.hmn y hy.1
   obtain ⟨oD, esD, epD, hoD, hdD, hcD⟩ := n₂.count (ns := ns ++ [n]) fun y hy => by
    by_cases q : y ∈ ns ++ [n]
    ·exact q
    ·exact absurd (hmn' y q) hy
   refine wpAny_bind (wpAny_lookBehind hoD (by rw [hdD]; exact pastItsLine_dict (Nat.le_trans hcD (by
    rw [sizeLine_eq, List.length_append]
    rw [List.length_append, List.length_map, List.length_cons] at hl
    simp only [List.length_cons, List.length_nil]; lia))) ?_)
   refine wpAny_pure ?_
   show wpAny _ _ (release _ _) _ _ _
   refine wpAny_release ?_
   refine wpAny_pure ?_
   have hSd : ¬ S₁ dx := fun q => by
    rcases r₁.sok dx q with q | q
    ·exact ti.pd q
    ·obtain ⟨o, e⟩ := ti.gd
     have q : g.get? dx = none := q
     rw [q] at e; cases e
   obtain ⟨o₀, e₀⟩ := ti.gd
   have ge : (g.update dx fun _ => oD).get? dx = some oD := Heap.get?_update_self _ e₀ (Obj.isFreed_of_dict hdD)
   obtain ⟨r₂, x₂, v₂⟩ := r₁.rebase (g' := g.update dx fun _ => oD) (KS ht₁) ed (Ks hdd) (by rw [hdd]; intro v q; cases q) hSd ti.ld ti.bd ti.fd k₂ hoD (fun b hb => Heap.get?_update_other _ _ (Ne.symm hb)) ge ti.gd
   have rv₂ : RVs S₁ h₂ (vs ++ [v]) (ds ++ [t.val]) := RVs.append (.cons (j₁.ext x₂) .nil) ((ti.rv.ext x₁).ext x₂)
   have := ih (s := { s with heap := h₂, toks := t₁ + 1 + 1 }) (g := g.update dx fun _ => oD) (ns := ns ++ [n]) (vs := vs ++ [v]) (ds := ds ++ [t.val]) (m := fun y => if y = n then some v else m y) (Q := Q)
    ⟨r₂, fun b hb => (Heap.get?_update_other _ _ (Ne.symm hb)).trans (ti.gk b hb), ⟨oD, ge⟩, ti.xi, ti.xd, ti.pd, ti.bd, ti.ld, ti.fd, v₂ sf _ hv₁, n₂, by
     rw [List.map_append, List.map_append, List.map_cons, List.map_nil, if_pos rfl, ← ti.hm]
     congr 1
     exact List.map_congr_left fun y hy => if_neg (by rintro rfl; exact nn hy), hmn', rv₂, fun b hb => (List.mem_append.mp hb).elim (ti.new b) fun hb => fresh b (List.mem_singleton.mp hb).symm⟩ (by rw [List.append_assoc]; exact nd) (by rw [List.append_assoc]; exact hl) ht₁
   refine this fun h' tk g' ρ' S' vs' m' ti' sub => ?_
   rw [List.append_assoc, List.append_assoc] at ti'
   exact hQ h' tk g' ρ' S' vs' m' ti' fun b q => sub b (x₁.sub b q)
end
noncomputable def He (G : Gd) (cx : Cx) (sc : Scope) (sts : List Stmt) (S : Addr → Prop) (s : Shared) (Q : Flow → Shared → Prop) (E : Value → Shared → Prop) : Res Fl → Prop
 | .ok .next ρ => ∀ h' tk S', Rel G cx sc ρ S' h' → Ext S s.heap S' h' → wpAny G.M cx.A (execs sts cx.env) Q E { s with heap := h', toks := tk }
 | .exc C ρ => ∀ e h' tk S', Rel G cx sc ρ S' h' → Fly s.heap h' e C → Ext S s.heap S' h' → E (.ref e) { s with heap := h', toks := tk }
 | _ => False
noncomputable def Ix (G : Gd) (k : Nat) (sc : Scope) (sts1 : List Stmt) (f : AEnv → Res Fl) : Prop :=
 ∀ cx, CxOk G cx sc k → FnOk G cx → ∀ ρ S s, Rel G cx sc ρ S s.heap → ∀ rest Q E, He G cx sc rest S s Q E (f ρ) → wpAny G.M cx.A (execs (sts1 ++ rest) cx.env) Q E s
inductive SPre (G : Gd) (k : Nat) (sc : Scope) (sts : List Stmt) : List Stmt → (AEnv → Res Fl) → Prop
 | nil : SPre G k sc sts sts Qn
 | cons {st : Stmt} {rest : List Stmt} {f g : AEnv → Res Fl} : YY G k sc st f → SPre G k sc sts rest g → SPre G k sc sts (st :: rest) (Qj f g)
 | blk {sts1 rest : List Stmt} {f g : AEnv → Res Fl} : Ix G k sc sts1 f → SPre G k sc sts rest g → SPre G k sc sts (sts1 ++ rest) (Qj f g)
set_option tactic.hygienic true in
theorem SPre.wp {G : Gd} {k : Nat} {sc : Scope} {sts body : List Stmt} {f : AEnv → Res Fl} {cx : Cx} (p : SPre G k sc sts body f) (ok : CxOk G cx sc k) (fn : FnOk G cx) : ∀ {ρ : AEnv} {S : Addr → Prop} {s : Shared} {Q : Flow → Shared → Prop} {E : Value → Shared → Prop}, Rel G cx sc ρ S s.heap → He G cx sc sts S s Q E (f ρ) → wpAny G.M cx.A (execs body cx.env) Q E s := by
 induction p with
 | nil => intro ρ S s Q E r out; exact out s.heap s.toks S r (Ext.refl ..)
 | cons h1 _ ih =>
  rename_i st rest f g _
  intro ρ S s Q E r out
  rw [execs_cons]
  refine wpAny_bind (h1 cx ok fn ρ S s r _ _ ?_)
  unfold Qj at out
  cases hf : f ρ with
  | stuck => rw [hf] at out; exact out.elim
  | exc C ρ₁ => rw [hf] at out; exact out
  | ok fl ρ₁ =>
   rw [hf] at out
   simp only [Res.bind] at out
   intro a h₁ t₁ S₁ r₁ j₁ x₁ _
   cases a <;> cases fl <;> first | exact j₁.elim | exact out.elim | skip
   refine ih (s := { s with heap := h₁, toks := t₁ }) r₁ ?_
   have out : He G cx sc sts S s Q E (g ρ₁) := out
   cases hg : g ρ₁ with
   | stuck => rw [hg] at out; exact out
   | exc C ρ₂ => rw [hg] at out; intro e h₂ t₂ S₂ r₂ f₂ x₂; exact out e h₂ t₂ S₂ r₂ (f₂.back x₁) (x₁.trans x₂)
   | ok fl ρ₂ =>
    rw [hg] at out
    cases fl <;> first | exact out | skip
    intro h₂ t₂ S₂ r₂ x₂
    exact out h₂ t₂ S₂ r₂ (x₁.trans x₂)
 | blk h1 _ ih =>
  rename_i sts1 rest f g _
  intro ρ S s Q E r out
  refine h1 cx ok fn ρ S s r rest Q E ?_
  unfold Qj at out
  cases hf : f ρ with
  | stuck => rw [hf] at out; exact out.elim
  | exc C ρ₁ => rw [hf] at out; exact out
  | ok fl ρ₁ =>
   rw [hf] at out
   cases fl <;> first | exact out.elim | skip
   intro h₁ t₁ S₁ r₁ x₁
   refine ih (s := { s with heap := h₁, toks := t₁ }) r₁ ?_
   have out : He G cx sc sts S s Q E (g ρ₁) := out
   cases hg : g ρ₁ with
   | stuck => rw [hg] at out; exact out
   | exc C ρ₂ => rw [hg] at out; intro e h₂ t₂ S₂ r₂ f₂ x₂; exact out e h₂ t₂ S₂ r₂ (f₂.back x₁) (x₁.trans x₂)
   | ok fl ρ₂ =>
    rw [hg] at out
    cases fl <;> first | exact out | skip
    intro h₂ t₂ S₂ r₂ x₂
    exact out h₂ t₂ S₂ r₂ (x₁.trans x₂)
noncomputable def IV (G : Gd) (ns : List Str) (dx : Addr) (S : Addr → Prop) (s : Shared) (R : Result → Shared → Prop) : IOut → Prop
 | .ok ds => ∀ h' tk S' m vs, (∀ b o, b ≠ dx → s.heap.get? b = some o → Kept h' b o) → G.B.StaysIn h' → (∀ b, S b → S' b) → (∀ b, S' b → S b ∨ s.heap.get? b = none) → Dg S' h' → h'.Ns dx m → (ns.map m = vs.map some ∧ ∀ y, y ∉ ns → m y = none) → RVs S' h' vs ds → (∀ b, Value.ref b ∈ vs → s.heap.get? b = none) → R (.ok (.ret .none)) { s with heap := h', toks := tk }
 | .exc C => ∀ e h' tk, Kp s.heap h' → G.B.StaysIn h' → FlyT s.heap h' e C → R (.error (.ref e)) { s with heap := h', toks := tk }
 | .stuck => False
noncomputable def Wo (G : Gd) (k : Nat) (f : Value) (C : Addr) (ns : List Str) (I : Addr → List D → IOut) : Prop :=
 ∀ (A : Around) (fs : List Env) (S : Addr → Prop) (s : Shared) (vs : List Value) (ds : List D) (x dx : Addr), Bt A k → A.frames = some fs → (G.quiet = true → A.handled = none) → (∀ v, A.handled = some v → ∃ C, RV S s.heap v (.exc C)) → FF G.B s.heap fs → G.B.StaysIn s.heap → Dg S s.heap → RVs S s.heap vs ds →
  s.heap.get? x = some (W.instObj C dx) → s.heap.Ns1 dx (fun _ => none) → x ≠ dx → ¬ S dx → G.B.get? dx = none → (∀ env ∈ fs, env.frame ≠ some dx) → ∀ R, IV G ns dx S s R (I x ds) → codeAny G.M A (.call f ⟨.ref x :: vs, []⟩) R s
noncomputable def B7 (n : Nat) (is : List Nat) (i₀ : Nat) (f : AEnv → Res Fl) (ts : List (Str × (AEnv → Res T))) (x : Addr) (ds : List D) : IOut := if ds.length + 1 = is.length then DX i₀ f ts x (OB n is (.glob (.ref x) :: ds)) else .stuck
set_option tactic.hygienic true in
theorem FL {G : Gd} (g : Gr G) {k : Nat} (a : Addr) (n : Nat) (is : List Nat) (i₀ : Nat) (C : Addr) (sf : Str) {f : AEnv → Res Fl} {sts : List Stmt} {ts : List (Str × (AEnv → Res T))} (h : SPre G k (Xd G.K a).scope sts (Jd (Xd G.K a)) f) (ht : STail G k (Xd G.K a).scope C i₀ sf sts ts)
  (hbind : ∀ vs : List Value, vs.length = (Xk (Xd G.K a)).length → bindArgs (Xd G.K a) ⟨vs, []⟩ = pure ((Xk (Xd G.K a)).zip vs)) (hn : (Qf (Xd G.K a).scope).length = n) (hi : YT (Qf (Xd G.K a).scope) (Xk (Xd G.K a)) = is) (hsf : (Qf (Xd G.K a).scope)[i₀]? = some sf)
  (hdb : (sf == ("__debug__" : Str)) = false) (hcd : (sf == ("__classdict__" : Str)) = false) (hp : W.plainOver G.K C = true) (hh : (W.clsIn G.K C).any (·.hasDict) = true)
  (hs : W.findIn G.K (.ref C) "__setattr__" = some (some (.builtin "object.__setattr__"))) (hnd : Ut (ts.map (·.1)) = true) (hnl : ts.length ≤ 100)
  (hf : Wr G.K a = true) (hc : W.codeIn G.K (Xd G.K a).code (Xd G.K a).qualname = true) (hpl : WR (Xd G.K a) = true) :
  Wo G (k + 1) (.ref a) C (ts.map (·.1)) (B7 n is i₀ f ts) := by
 obtain ⟨fo, h1, h2⟩ := DO g hf
 unfold WR at hpl
 simp only [Bool.and_eq_true, beq_iff_eq, Bool.not_eq_true'] at hpl
 obtain ⟨⟨⟨⟨⟨⟨⟨⟨⟨p1, p2⟩, p3⟩, p4⟩, p5⟩, p6⟩, p7⟩, p8⟩, p9⟩, p10⟩ := hpl
 have p7' : ∀ x ∈ Xk (Xd G.K a), (Qf (Xd G.K a).scope).contains x = true ∧ ((Xd G.K a).scope.names.lookup x = some .local ∨ (Xd G.K a).scope.names.lookup x = some .cell) := fun x hx => by
  have := List.all_eq_true.mp p7 x hx
  simpa using this
 have hb : (Xd G.K a).body = .stmts (Jd (Xd G.K a)) := by
  unfold Jd
  split at p1
  ·rename_i b e; rw [e]
  ·cases p1
 intro A fs S s vs ds x dx room fr hd hok ff hB sd rv hx hdx hxd hSd hBd hfd R fin
 unfold B7 at fin
 split at fin
 rotate_left
 ·exact fin.elim
 rename_i hlen
 have hil : is.length = (Xk (Xd G.K a)).length := by rw [← hi]; unfold YT; simp
 have rv' : RVs S s.heap (.ref x :: vs) (.glob (.ref x) :: ds) := .cons (.glob _ fun b e => by cases e; exact ⟨_, hx⟩) rv
 refine Hl g.ok (body := Jd (Xd G.K a)) (ps := Xk (Xd G.K a)) h1 h2 (W.codeRec_of g.ok.K hc) hb (by simpa using p2) p3 p4 hbind (fun x hx => (p7' x hx).2) (X8 p6) (X8 p5) p8 p9 p10 room fr hd hok ff hB sd rv' (by rw [List.length_cons, hlen, hil]) fun cx h₁ tk₁ ok fn e₀ eP eF eL r₀ hk₁ => ?_
 rw [BJ (X8 p5) (List.all_eq_true.mpr fun x hx => (p7' x hx).1), hn, hi] at r₀
 refine h.wp ok fn (s := { s with heap := h₁, toks := tk₁ }) r₀ ?_
 unfold DX at fin
 cases hfr : f (OB n is (.glob (.ref x) :: ds)) with
 | stuck => rw [hfr] at fin; exact fin.elim
 | exc C ρ' =>
  rw [hfr] at fin
  intro e h₂ t₂ S₂ r₂ f₂ x₂
  refine Oc (B := G.B) (h := h₁) (s := { s with heap := h₂, toks := t₂ }) ok.fr r₂.ff ok.top f₂ x₂.dom fun h₃ k₃ f₃ => ?_
  have r₃ := r₀.kpE r₂ k₃ f₂ f₃
  refine fin e h₃ t₂ (e₀ ▸ r₃.keep) r₃.base ?_
  obtain ⟨n, oe, ws, T, oT, ts, a1, a2, a0, a3, a4, a5, a6, a7, a8, a9, a10, a11⟩ := f₃
  have back : ∀ b, h₁.get? b = none → s.heap.get? b = none := fun b q => by
   cases q' : s.heap.get? b with
   | none => rfl
   | some o => rw [hk₁ b o q'] at q; cases q
  exact ⟨back e n, oe, ws, T, oT, ts, a1, a2, a0, a3, a4, a5, a6, back T a7, a8, a9, a10, a11⟩
 | ok fl ρ₁ =>
  rw [hfr] at fin
  cases fl <;> first | exact fin.elim | skip
  simp only at fin
  split at fin
  ·rename_i y hy
   split at fin
   ·rename_i hyx
    subst hyx
    cases htl : Zl ts ρ₁ with
    | none => rw [htl] at fin; exact fin.elim
    | some ds' =>
     rw [htl] at fin
     intro h₂ t₂ S₂ r₂ x₂
     obtain ⟨v, hv, tv⟩ := r₂.vars i₀ sf _ hsf hy
     cases tv
     have hdx₀ : cx.h₀.Ns1 dx (fun _ => none) := by rw [e₀]; exact hdx
     have hdx₂ : h₂.Ns1 dx (fun _ => none) := r₂.keep.ns1 hdx₀
     have gd : ∃ o, cx.h₀.get? dx = some o := let ⟨o, _, _, e, _⟩ := hdx₀; ⟨o, e⟩
     refine G8 g.ok (x := y) (dx := dx) hdb hcd hp hh hs ok ht (g := cx.h₀) (s := { s with heap := h₂, toks := t₂ }) (ns := []) (vs := []) (ds := []) (m := fun _ => none)
      ⟨r₂, fun _ _ => rfl, gd, by rw [e₀]; exact hx, hxd, by rw [eP]; exact hSd, hBd, ?_, ?_, hv, hdx₂, rfl, fun _ _ => rfl, .nil, fun b hb => by cases hb⟩ (X8 hnd) (by rw [List.nil_append, List.length_map]; exact hnl) htl fun h' tk g' ρ' S' vs' m' ti sub => ?_
     ·rintro rfl
      obtain ⟨o, e⟩ := gd
      rw [fn.lnew] at e; cases e
     ·intro env he
      obtain ⟨env₀, outer, e1, e2⟩ := ok.top
      rw [e1] at he eF
      rcases List.mem_cons.mp he with rfl | he
      ·intro q
       rw [← e2, eL] at q; cases q
       obtain ⟨o, e⟩ := gd
       rw [fn.lnew] at e; cases e
      ·exact hfd env (by rw [← eF]; exact he)
     ·refine fin h' tk S' m' vs' (fun b o hb e => ?_) ti.r.base (fun b q => sub b (x₂.sub b q)) (fun b q => ?_) ti.r.sdom ti.nsd.ns ⟨by have := ti.hm; rwa [List.nil_append] at this, by have := ti.hmn; rwa [List.nil_append] at this⟩ (by have := ti.rv; rwa [List.nil_append] at this) (fun b hb => by rw [← e₀]; exact ti.new b hb)
      ·exact ti.r.keep b o ((ti.gk b hb).trans (by rw [e₀]; exact e))
      ·rcases ti.r.sok b q with q' | q'
       ·exact .inl (eP ▸ q')
       ·refine .inr ?_
        have q' : g'.get? b = none := q'
        rw [← e₀, ← ti.gk b (by rintro rfl; obtain ⟨o, e⟩ := ti.gd; rw [q'] at e; cases e)]
        exact q'
   ·exact fin.elim
  ·exact fin.elim
noncomputable def KC (I : Addr → List D → IOut) (ds : List D) : IOut := by
 classical exact if h : ∃ o, ∀ x, I x ds = o then Classical.choose h else .stuck
theorem GD {I : Addr → List D → IOut} {ds : List D} {o : IOut} (h : ∀ x, I x ds = o) : KC I ds = o := by
 unfold KC
 have hh : ∃ o, ∀ x, I x ds = o := ⟨o, h⟩
 rw [dif_pos hh, ← Classical.choose_spec hh 0, h 0]
set_option tactic.hygienic true in
theorem DS {I : Addr → List D → IOut} {ds : List D} (x : Addr) (h : KC I ds ≠ .stuck) : I x ds = KC I ds := by
 unfold KC at h ⊢
 split at h
 ·rename_i hh; rw [dif_pos hh]; exact Classical.choose_spec hh x
 ·exact absurd rfl h
noncomputable def Vq (C : Addr) (ns : List Str) (I : Addr → List D → IOut) (fa : AEnv → Res (List Bv)) : AEnv → Res T := fun ρ => (fa ρ).bind fun bs ρ₁ => match XN ρ₁ bs with
 | some ds => if bs.all (ZK ρ₁) then (match KC I ds with
  | .ok es => .ok (.sh (.obj C ns es)) ρ₁
  | .exc C' => .exc C' ρ₁
  | .stuck => .stuck) else .stuck
 | none => .stuck
noncomputable def Hi : D → Bool
 | .int _ => true
 | .list ds => Xv ds
 | _ => false
theorem RVs.free {S S' : Addr → Prop} {h : Heap} {vs : List Value} : ∀ {ds : List D}, RVs S h vs ds → Xv ds = true → RVs S' h vs ds := by
 induction vs with
 | nil => intro ds q _; cases q; exact .nil
 | cons v vs ih =>
  intro ds q e
  cases q with
  | cons q r => rw [Xv, Bool.and_eq_true_iff] at e; exact .cons (q.free e.1) (ih r e.2)
theorem RVs.newOnly {S S' : Addr → Prop} {h : Heap} {vs : List Value} : ∀ {ds : List D}, RVs S h vs ds → ds.all Hi = true → (∀ b, Value.ref b ∈ vs → S b → S' b) → RVs S' h vs ds := by
 induction vs with
 | nil => intro ds q _ _; cases q; exact .nil
 | cons v vs ih =>
  intro ds q e n
  cases q with
  | cons q r =>
   rw [List.all_cons, Bool.and_eq_true_iff] at e
   refine .cons ?_ (ih r e.2 fun b hb => n b (.tail _ hb))
   cases q with
   | int i t => exact .int i t
   | list hs e1 hc hd rv => exact .list (n _ (.head _) hs) e1 hc hd (rv.free e.1)
   | _ => cases e.1
noncomputable def DN (h : Heap) (S' : Addr → Prop) (h' : Heap) (v : Value) (t : T) : Prop := ∀ C ns es, t = .sh (.obj C ns es) → es.all Hi = true → RV (fun b => S' b ∧ h.get? b = none) h' v (.obj C ns es)
section
variable {G : Gd} {k : Nat} {sc : Scope}
theorem Dw {A : Around} {C : Addr} {vs : List Value} {k' : Nat} (r : Bt A (k' + 1)) : Bt (A.under (.builtin "type.__call__" ⟨.ref C :: vs, []⟩)) k' ∧ (A.under (.builtin "type.__call__" ⟨.ref C :: vs, []⟩)).frames = A.frames ∧ (A.under (.builtin "type.__call__" ⟨.ref C :: vs, []⟩)).handled = A.handled := by
 have w : (Code.builtin "type.__call__" ⟨.ref C :: vs, []⟩).weight = 1 := by
  unfold Code.weight Code.isGuard Code.isCaller Code.isCreation
  rfl
 have u : (Code.builtin "type.__call__" ⟨.ref C :: vs, []⟩).cUnits = 1 := rfl
 refine ⟨⟨?_, ?_⟩, ?_, rfl⟩
 ·show A.depth + (Code.builtin "type.__call__" ⟨.ref C :: vs, []⟩).weight + k' ≤ 900
  rw [w]; have := r.1; exact omS this
 ·show A.units + (Code.builtin "type.__call__" ⟨.ref C :: vs, []⟩).cUnits + 8 * k' ≤ 9000
  rw [u]; have := r.2; lia
 ·unfold Around.under
  cases A.frames <;> rfl
theorem Es {cx : Cx} {ρ : AEnv} {S : Addr → Prop} {s : Shared} {C f : Addr} {ns : List Str} {I : Addr → List D → IOut} {vs : List Value} {bs : List Bv} {ds : List D} {k' : Nat} (hG : G.Ok) (hI : Wo G k' (.ref f) C ns I) (ok : CxOk G cx sc k) (hk : k' + 1 ≤ k) (hm : W.makesIn G.K C = true) (hi : W.findIn G.K (.ref C) "__init__" = some (some (.ref f))) (hf : W.typeIn G.K (.ref f) = some (.type "function"))
  (r : Rel G cx sc ρ S s.heap) (q : BVals cx sc S s.heap vs bs) (hs : bs.all (ZK ρ) = true) (e : XN ρ bs = some ds) :
  Qk G cx sc true (call (.ref C) vs []) S s (fun S' h' v t => Yp cx S' h' v t ∧ DN s.heap S' h' v t) (match KC I ds with
   | .ok es => .ok (.sh (.obj C ns es)) ρ
   | .exc C' => .exc C' ρ
   | .stuck => .stuck) := by
 intro Q E out
 refine wpAny_call ?_
 have X : G.K.In s.heap := hG.K.keeps r.base
 obtain ⟨hh, gg, dd, tt, os⟩ := s
 refine W.make_core (W.makes_of X hm) (W.looks_findIn X hi) (fun sf => W.bind_fn X sf hf) (.inl rfl) ?_
 have kp : ∀ b o, hh.get? b = some o → ((hh.push W.emptyDict).push (W.instObj C hh.objs.size)).get? b = some o := fun b o e => Heap.get?_push_of_some _ (Heap.get?_push_of_some _ e)
 have hdx : ((hh.push W.emptyDict).push (W.instObj C hh.objs.size)).get? hh.objs.size = some W.emptyDict := Heap.get?_push_of_some _ (Heap.get?_push_size _ rfl)
 have hx : ((hh.push W.emptyDict).push (W.instObj C hh.objs.size)).get? (hh.objs.size + 1) = some (W.instObj C hh.objs.size) := by
  have := Heap.get?_push_size (hh.push W.emptyDict) (o := W.instObj C hh.objs.size) rfl
  rwa [Heap.size_push] at this
 have hn0 : hh.get? hh.objs.size = none := Heap.get?_none_of_le (Nat.le_refl _)
 have hn1 : hh.get? (hh.objs.size + 1) = none := Heap.get?_none_of_le (Nat.le_succ _)
 have r₁ : Rel G cx sc ρ S ((hh.push W.emptyDict).push (W.instObj C hh.objs.size)) := r.keeps kp
 have rv : RVs S ((hh.push W.emptyDict).push (W.instObj C hh.objs.size)) vs ds := (q.rvs r hs e).ext (Ext.of_keeps kp)
 obtain ⟨u1, u2, u3⟩ := Dw (C := C) (vs := vs) (k' := k') (ok.room.mono hk)
 refine hI _ cx.fs S ⟨(hh.push W.emptyDict).push (W.instObj C hh.objs.size), gg, dd, tt, os⟩ vs ds (hh.objs.size + 1) hh.objs.size u1 (u2.trans ok.fr) (fun z => u3.trans (ok.hd z)) (fun v z => r₁.hok v (u3 ▸ z)) r₁.ff r₁.base r₁.sdom rv hx ?_ (Nat.succ_ne_self _) ?_ ?_ ?_ _ ?_
 ·exact Heap.Ns1.of_empty ⟨_, _, _, hdx, rfl, fun e he => absurd he (by simp), fun _ => rfl⟩
 ·intro z; obtain ⟨o, e⟩ := r.sdom _ z; rw [hn0] at e; cases e
 ·cases z : G.B.get? hh.objs.size with
  | none => rfl
  | some o => have := r.base _ o z; rw [hn0] at this; cases this
 ·intro env he z
  obtain ⟨_, L, o, b, _, d, _⟩ := r.ff env he
  rw [z] at b; cases b
  rw [hn0] at d; cases d
 ·cases ha : KC I ds with
  | stuck => rw [ha] at out; exact out.elim
  | exc C' =>
   rw [ha] at out
   rw [DS (I := I) (ds := ds) (hh.objs.size + 1) (by rw [ha]; intro z; cases z), ha]
   intro e h' tk k1 hb fl
   refine out e h' tk S (r₁.kp k1 hb) ?_ ((Ext.of_keeps kp).trans (Ext.of_kp k1))
   exact fl.fly.back (Ext.of_keeps (S := S) kp)
  | ok es =>
   rw [ha] at out
   rw [DS (I := I) (ds := ds) (hh.objs.size + 1) (by rw [ha]; intro z; cases z), ha]
   intro h' tk S' m vs' keep hb sub new sd nsd hmm rvs nw
   refine ⟨rfl, ?_⟩
   have kp' : Kp hh h' := fun b o e => keep b o (by rintro rfl; rw [hn0] at e; cases e) (kp b o e)
   have hx' : h'.get? (hh.objs.size + 1) = some (W.instObj C hh.objs.size) := by
    obtain ⟨sl, e₁, hs⟩ := keep _ _ (Nat.succ_ne_self _) hx
    rw [hs fun es m z => by cases z] at e₁; exact e₁
   have hdx' : ∃ o, h'.get? hh.objs.size = some o := let ⟨o, _, _, e, _⟩ := nsd; ⟨o, e⟩
   obtain ⟨r', x'⟩ := r.kpS (S' := fun b => S' b ∨ b = hh.objs.size ∨ b = hh.objs.size + 1) kp' hb (fun b z => .inl (sub b z)) (fun b z => by
    rcases z with z | rfl | rfl
    ·rcases new b z with z | z
     ·exact .inl z
     ·refine .inr ?_
      cases z' : hh.get? b with
      | none => rfl
      | some o => have := kp b o z'; rw [z] at this; cases this
    ·exact .inr hn0
    ·exact .inr hn1) (fun b z => by
    rcases z with z | rfl | rfl
    ·exact sd b z
    ·exact hdx'
    ·exact ⟨_, hx'⟩)
   refine out (.ref (hh.objs.size + 1)) h' tk _ r' ⟨.obj (.inr (.inr rfl)) (.inr (.inl rfl)) hx' nsd hmm (rvs.ext (Ext.grow fun _ z => .inl z)), fun C' ns' es' et hf => ?_⟩ x' fun _ => r.same kp'
   cases et
   refine .obj ⟨.inr (.inr rfl), hn1⟩ ⟨.inr (.inl rfl), hn0⟩ hx' nsd hmm (rvs.newOnly hf fun b hb z => ⟨.inl z, ?_⟩)
   cases z' : hh.get? b with
   | none => rfl
   | some o => have q : ((hh.push W.emptyDict).push (W.instObj C hh.objs.size)).get? b = none := nw b hb; rw [kp b o z'] at q; cases q
noncomputable def Hq (G : Gd) (k : Nat) (sc : Scope) (e : Expr) (f : AEnv → Res T) : Prop :=
 ∀ cx, CxOk G cx sc k → ∀ ρ S s, Rel G cx sc ρ S s.heap → Qk G cx sc true (eval e cx.env) S s (fun S' h' v t => Yp cx S' h' v t ∧ DN s.heap S' h' v t) (f ρ)
theorem Hq.sim {e : Expr} {f : AEnv → Res T} (h : Hq G k sc e f) : Sim G k sc e f := fun cx ok ρ S s r Q E out => h cx ok ρ S s r Q E (by
 cases hf : f ρ with
 | stuck => rw [hf] at out; exact out
 | exc C ρ₁ => rw [hf] at out; exact out
 | ok t ρ₁ => rw [hf] at out; intro v h' tk S' r' j x vs; exact out v h' tk S' r' j.1 x vs)
set_option tactic.hygienic true in
theorem EC (hG : G.Ok) {g : Str} {p pos : Pos} {C f : Addr} {ns : List Str} {I : Addr → List D → IOut} {args : List Expr} {fa : AEnv → Res (List Bv)} {k' : Nat} (hn : Sim G k sc (.Name g p) (Qe (.glob (.ref C)))) (hI : Wo G k' (.ref f) C ns I) (hk : k' + 1 ≤ k) (ha : Ji G k sc args fa) (hu : args.all QS = true)
  (hpl : ∀ env, ((backTo pos (starEach args env)).any (·.1) || ([] : List (Option Str × Sem Value)).any (·.1.isNone)) = false) (hkp : W.keepIn G.K (.ref C) = true) (hm : W.makesIn G.K C = true) (hi : W.findIn G.K (.ref C) "__init__" = some (some (.ref f))) (hf : W.typeIn G.K (.ref f) = some (.type "function")) :
  Hq G k sc (.Call (.Name g p) args [] pos) (Vq C ns I fa) := by
 intro cx ok ρ S s r Q E out
 show wpAny G.M cx.A (do callWith pos (← eval (.Name g p) cx.env) [] (backTo pos (starEach args cx.env)) []) Q E s
 refine wpAny_bind (hn cx ok ρ S s r _ _ ?_)
 intro v h₁ t₁ S₁ r₁ j₁ x₁ v₁
 have hv : v = .ref C := by cases j₁; rfl
 subst hv
 refine W.callWith_of (P := G.K.In) (hpl cx.env) (W.keeps_K hkp) (X1 hu ?_)
 refine ha pos cx ok ρ S₁ { s with heap := h₁, toks := t₁ } r₁ _ _ ?_
 refine out.step (x₁) fun bs ρ' out vs h₂ t₂ S₂ r₂ j₂ x₂ v₂ => ?_
 refine ⟨hG.K.keeps r₂.base, ?_⟩
 split at out
 ·rename_i ds hds
  split at out
  ·rename_i hs
   refine Es (s := { s with heap := h₂, toks := t₂ }) hG hI ok hk hm hi hf r₂ j₂ hs hds Q E ?_
   cases hc : KC I ds with
   | stuck => rw [hc] at out; exact out
   | exc C' => rw [hc] at out; intro e h₃ t₃ S₃ r₃ f₃ x₃; exact out e h₃ t₃ S₃ r₃ (f₃.back (x₁.trans x₂)) ((x₁.trans x₂).trans x₃)
   | ok es => rw [hc] at out; intro w h₃ t₃ S₃ r₃ j₃ x₃ v₃; exact out w h₃ t₃ S₃ r₃ ⟨j₃.1, fun C' ns' es' et hf => (j₃.2 C' ns' es' et hf).ext (Ext.grow fun b z => ⟨z.1, (x₁.trans x₂).none z.2⟩)⟩ ((x₁.trans x₂).trans x₃) fun q => ((v₁ q).trans (v₂ q)).trans (v₃ q)
  ·exact out.elim
 ·exact out.elim
theorem Fa (hG : G.Ok) {g : Str} {p pos : Pos} {C f : Addr} {ns : List Str} {I : Addr → List D → IOut} {args : List Expr} {fa : AEnv → Res (List Bv)} {k' : Nat} (hn : Sim G k sc (.Name g p) (Qe (.glob (.ref C)))) (hI : Wo G k' (.ref f) C ns I) (hk : k' + 1 ≤ k) (ha : Ji G k sc args fa) (hu : args.all QS = true)
  (hpl : ∀ env, ((backTo pos (starEach args env)).any (·.1) || ([] : List (Option Str × Sem Value)).any (·.1.isNone)) = false) (hkp : W.keepIn G.K (.ref C) = true) (hm : W.makesIn G.K C = true) (hi : W.findIn G.K (.ref C) "__init__" = some (some (.ref f))) (hf : W.typeIn G.K (.ref f) = some (.type "function")) :
  Sim G k sc (.Call (.Name g p) args [] pos) (Vq C ns I fa) := (EC hG hn hI hk ha hu hpl hkp hm hi hf).sim
end
section
variable {prog : Program} {w : World} {A : Around} {E : Value → Shared → Prop} {s : Shared}
theorem VW {it l : Addr} {Q : Option Value → Shared → Prop} (hh : HOk A s.heap) (hit : s.heap.IsRevIter it l (-1)) (hQ : ∀ h', KB [it] s.heap h' → Q none { s with heap := h' }) : wpAny (model prog w) A (pyNext (.ref it)) Q E s := by
 obtain ⟨o, ho, hc, hd⟩ := id hit
 unfold pyNext
 refine wpAny_bind (wpAny_attempt (wpAny_callSpecial?_slot (name := Str.ofString "__next__") hit.typeIs F.slot_lri_next
  (wpAny_call_entry F.slot_lri_next hit.typeIs F.entry_lri_next ?_ (F.args_lri_next_1 _))))
 unfold Builtin.«list_reverseiterator.__next__»
 refine wpAny_bind (wpAny_of_eq (a := (Value.ref it, [])) rfl ?_)
 try dsimp only
 refine wpAny_bind (wpAny_field ho hd (x := rawInt (-1)) rfl ?_)
 show wpAny _ _ (if (-1 : Int) < 0 then _ else _) _ _ s
 rw [if_pos (by decide)]
 refine wpAny_bind (wpAny_rule ?_)
 first
 | show wpAny _ _ (newExc (.type "StopIteration") [] >>= fun e => raiseNew e) _ _ _
 | (refine wpAny_bind ?_; show wpAny _ _ (newExc (.type "StopIteration") [] >>= fun e => raiseNew e) _ _ _)
 refine KN (A := A.in1) hh fun h' e k he => ?_
 obtain ⟨oe, he, hce⟩ := he
 refine wpAny_bind (wpAny_isInstance (T := "StopIteration") (b := true) ⟨_, he, hce⟩ isSubtype_stop ?_)
 exact wpAny_pure (hQ _ ⟨fun b o _ e => k b o e, fun b hb => by cases List.mem_singleton.mp hb; exact ⟨_, k _ _ ho⟩⟩)
end
section
variable {G : Gd} {A : Around} {tg : Expr}
noncomputable def Iu (I l : Addr) (ds : List D) (i : Nat) (S : Addr → Prop) (h : Heap) : Prop :=
 h.IsRevIter I l ((ds.length : Int) - 1 - i) ∧ i ≤ ds.length ∧ ∃ o vs n, h.get? l = some o ∧ o.cls = .type "list" ∧ o.data = .seq vs n ∧ RVs S h vs.toList ds ∧ S l
theorem G0 {I l : Addr} (hne : l ≠ I) (ds : List D) : ItK G A tg I [I] (Iu I l ds) ds.reverse where
 shape := fun i S h st b hb => by
  obtain ⟨⟨o, a1, a2, a3⟩, _⟩ := st
  exact ⟨o, by rw [List.mem_singleton.mp hb]; exact a1, _, _, a2, by decide, by decide, by decide, a3⟩
 ext := fun i S h S' h' st x => by
  obtain ⟨⟨o, a1, a2, a3⟩, hi, ol, vs, n, b1, b2, b3, b4, b5⟩ := st
  exact ⟨⟨o, x.exact a1 (.inr (.inr ⟨_, a3⟩)) (.fields a3), a2, a3⟩, hi, ol, vs, n, x.exact b1 (.inl b5) (.seq b3), b2, b3, b4.ext x, x.sub _ b5⟩
 item := fun i S s d Q E E' hd st hQ => by
  obtain ⟨⟨o, a1, a2, a3⟩, hi, ol, vs, n, b1, b2, b3, b4, b5⟩ := st
  have hil : i < ds.length := by
   have := (List.getElem?_eq_some_iff.mp hd).1
   simpa using this
  have hd' : ds[ds.length - 1 - i]? = some d := by rw [← List.getElem?_reverse hil]; exact hd
  obtain ⟨v, hv, rv⟩ := b4.get hd'
  have e1 : (ds.length : Int) - 1 - (i : Int) = ((ds.length - 1 - i : Nat) : Int) := by omega
  have hit : s.heap.IsRevIter I l ((ds.length - 1 - i : Nat) : Int) := ⟨o, a1, a2, by rw [← e1]; exact a3⟩
  refine wpAny_pyNext_rev_item hit ⟨ol, b1, b2, n, b3⟩ (by simpa using hv) fun h' it' k' => ⟨v, rfl, ?_⟩
  have it0 := it'
  obtain ⟨o', c1, c2, c3⟩ := it0
  have kb := KB.of_sameBut k' ⟨o', c1⟩
  have sh : ∀ b ∈ [I], ∃ o, s.heap.get? b = some o ∧ XJ o := fun b hb => ⟨o, by rw [List.mem_singleton.mp hb]; exact a1, _, _, a2, by decide, by decide, by decide, a3⟩
  have e2 : ((ds.length - 1 - i : Nat) : Int) - 1 = (ds.length : Int) - 1 - ((i + 1 : Nat) : Int) := by omega
  exact YU (s := { s with heap := h' }) c1 c2 c3 (by decide) (hQ v h' s.toks (rv.aside sh kb) ⟨by rw [← e2]; exact it', hil, ol, vs, n, (k'.2 l hne).trans b1, b2, b3, b4.aside sh kb, b5⟩ kb)
 done := fun S s Q E st hh hni hQ => by
  obtain ⟨hit, hi, _⟩ := st
  have e : (ds.length : Int) - 1 - ((ds.reverse.length : Nat) : Int) = -1 := by rw [List.length_reverse]; omega
  rw [e] at hit
  exact VW hh hit fun h' k => hQ h' s.toks k
 self := fun i S s Q E st hQ => wpAny_pyIter_revIter st.1 hQ
end
noncomputable def Gz (f : AEnv → Res T) : AEnv → Res (List D) := fun ρ => (f ρ).bind fun t ρ₁ => match t.val with
 | .list ds => .ok ds.reverse ρ₁
 | _ => .stuck
set_option tactic.hygienic true in
theorem FS {G : Gd} {k : Nat} {sc : Scope} {tg e : Expr} {x : Str} {p pos : Pos} {f : AEnv → Res T} (hn : Sim G k sc (.Name x p) (Qe (.glob (.type "reversed")))) (h : Sim G k sc e f) (hu : QS e = true) : KF G k sc tg (.Call (.Name x p) [e] [] pos) (Gz f) := by
 intro cx ok ρ S s r Q E out
 show wpAny G.M cx.A (do callWith pos (← eval (.Name x p) cx.env) [] (backTo pos (starEach [e] cx.env)) []) _ E s
 refine wpAny_bind (hn cx ok ρ S s r _ _ ?_)
 intro v h₀ t₀ S₀ r₀ j₀ x₀ v₀
 have hv : v = .type "reversed" := by cases j₀; rfl
 subst hv
 refine ZQ (fun a e => by cases e) (YN [e] (by simp [hu])) (X1 (by simp [hu]) ?_)
 have hs : starEach [e] cx.env = [(false, eval e cx.env)] := by rw [Ym hu]; rfl
 rw [hs]
 refine Calls.spliced_cons ?_
 refine (h cx ok ρ S₀ { s with heap := h₀, toks := t₀ } r₀).shared _ _ ?_
 refine Dz.stepS (s := s) (tg := tg) out x₀ fun t ρ₁ out v h₁ t₁ S₁ r₁ j₁ x₁ v₁ => ?_
 refine Calls.spliced_nil ?_
 have xx := x₀.trans x₁
 split at out
 ·rename_i ds e
  rw [e] at j₁
  cases j₁ with
  | list hs e1 e2 e3 q =>
   rename_i a o vs n
   have hvl : (vs.size : Int) = (ds.length : Int) := by have := q.length; rw [Array.length_toList] at this; rw [this]
   refine call_reversed_list (s := { s with heap := h₁, toks := t₁ }) ⟨o, e1, e2.1, n, e3⟩ ?_
   have hne : a ≠ h₁.objs.size := fun e => by rw [e, Heap.get?_none_of_le (Nat.le_refl _)] at e1; cases e1
   have hI : (h₁.push (revObj a ((vs.size : Int) - 1))).IsRevIter h₁.objs.size a ((ds.length : Int) - 1 - ((0 : Nat) : Int)) := by
    rw [hvl]
    have : (ds.length : Int) - 1 - ((0 : Nat) : Int) = (ds.length : Int) - 1 := by omega
    rw [this]
    exact ⟨_, Heap.get?_push_size _ rfl, rfl, rfl⟩
   refine wpAny_pyIter_revIter (s := { s with heap := h₁.push (revObj a ((vs.size : Int) - 1)), toks := t₁ }) hI ?_
   exact out _ [h₁.objs.size] _ S₁ _ t₁ (Rel.push (s := { s with heap := h₁ }) r₁ _) (G0 hne ds) ⟨hI, Nat.zero_le _, o, vs, n, Heap.get?_push_of_some _ e1, e2.1, e3, q.ext (QN _), hs⟩ (fun b hb => by
    rw [List.mem_singleton.mp hb]
    exact xx.none (Heap.get?_none_of_le (Nat.le_refl _))) (xx.trans (QN _)) (((v₀ rfl).trans (v₁ rfl)).trans (r₁.same (Xi _)))
 ·exact out.elim
section
variable {G : Gd} {k : Nat} {sc : Scope} {x : Str} {p : Pos} {args : List Expr} {pos : Pos}
theorem atr (g : Gr G) (C : Addr) {n : Str} (i : Nat) (hx : autoParam ((Qf sc)[i]? = some x) aK._auto_1) (hd : autoParam ((x == ("__debug__" : Str)) = false) aK._auto_1) (hn : autoParam ((x == ("__classdict__" : Str)) = false) aK._auto_1)
  (hga : autoParam (W.findIn G.K (.ref C) "__getattribute__" = some (some (.builtin "object.__getattribute__"))) aK._auto_1) (hc : autoParam ((W.clsIn G.K C).any (·.hasDict) = true) aK._auto_1) (hf : autoParam (W.findIn G.K (.ref C) n = some none) aK._auto_1) : Sim G k sc (.Attribute (.Name x p) n pos) (Om C n i) := Fm g.ok hx hd hn hga hc hf
theorem mtd (g : Gr G) (C f : Addr) (i : Nat) {n : Str} {apos : Pos} {k' : Nat} {F : List D → FOut} {fa : AEnv → Res (List Bv)} (hF : ZA G k' (.ref f) F) (ha : Ji G k sc args fa) (hk : autoParam (k' ≤ k) aD._auto_1) (hfn : autoParam (Wr G.K f = true) aK._auto_1) (hu : autoParam (args.all QS = true) aK._auto_1)
  (hx : autoParam ((Qf sc)[i]? = some x) aK._auto_1) (hd : autoParam ((x == ("__debug__" : Str)) = false) aK._auto_1) (hn : autoParam ((x == ("__classdict__" : Str)) = false) aK._auto_1)
  (hfew : autoParam (∀ env, ((backTo pos (starEach args env)).all (fun x => !x.1) && (backToKw pos (keywordEach [] env)).all (fun x => x.1.isSome) && decide (args.length + ([] : List Keyword).length + (if ([] : List Keyword).isEmpty then 0 else 1) < 30)) = true) aI._auto_1) (hline : autoParam ((apos.endLine == pos.line) = true) aR._auto_1)
  (hga : autoParam (W.findIn G.K (.ref C) "__getattribute__" = some (some (.builtin "object.__getattribute__"))) aK._auto_1) (hgt : autoParam (W.findIn G.K (.ref C) "__getattr__" = some none) aK._auto_1) (hf : autoParam (W.findIn G.K (.ref C) n = some (some (.ref f))) aK._auto_1) (hty : autoParam (W.typeIn G.K (.ref f) = some (.type "function")) aK._auto_1) :
  Sim G k sc (.Call (.Attribute (.Name x p) n apos) args [] pos) (EB C n i F fa) := by
 obtain ⟨fo, h1, h2⟩ := DO g hfn
 exact G5 g.ok hF hk h1 h2 ha hu hx hd hn hfew hline hga hgt hf hty
theorem mak (g : Gr G) (C f : Addr) {ns : List Str} {k' : Nat} {I : Addr → List D → IOut} {fa : AEnv → Res (List Bv)} (hI : Wo G k' (.ref f) C ns I) (ha : Ji G k sc args fa) (hk : autoParam (k' + 1 ≤ k) aD._auto_1) (hu : autoParam (args.all QS = true) aK._auto_1)
  (e : autoParam (W.nsIn G.K mainGlobals x = some (some (.ref C))) aK._auto_1) (ho : autoParam ((G.K.lookup C).isSome = true) aK._auto_1) (hx : autoParam (sc.names.lookup x = some .globalImplicit) aK._auto_1) (hd : autoParam ((x == ("__debug__" : Str)) = false) aK._auto_1)
  (hpl : autoParam (∀ env, ((backTo pos (starEach args env)).any (·.1) || ([] : List (Option Str × Sem Value)).any (·.1.isNone)) = false) aI._auto_1) (hkp : autoParam (W.keepIn G.K (.ref C) = true) aK._auto_1) (hm : autoParam (W.makesIn G.K C = true) aK._auto_1) (hi : autoParam (W.findIn G.K (.ref C) "__init__" = some (some (.ref f))) aK._auto_1) (hf : autoParam (W.typeIn G.K (.ref f) = some (.type "function")) aK._auto_1) :
  Sim G k sc (.Call (.Name x p) args [] pos) (Vq C ns I fa) := Fa g.ok (gF g C e ho hx hd) hI hk ha hu hpl hkp hm hi hf
theorem tC {C : Addr} {i₀ : Nat} {sf n : Str} {ap : Pos} {value : Expr} {f : AEnv → Res T} {sts : List Stmt} {ts : List (Str × (AEnv → Res T))} (h : Sim G k sc value f) (hr : STail G k sc C i₀ sf sts ts) (hsw : autoParam (∀ env : Env, swapsWithSole [.Attribute (.Name sf p) n ap] value pos.line env = pure false) aI._auto_1) (hw : autoParam (∀ env : Env, swappedStores [.Attribute (.Name sf p) n ap] value env = pure none) aI._auto_1) (ht : autoParam (W.takerIn G.K C n = some none) aK._auto_1) :
  STail G k sc C i₀ sf (.Assign [.Attribute (.Name sf p) n ap] value pos :: sts) ((n, f) :: ts) := .cons h (fun env _ => hsw env) hw ht hr
theorem IU (g : Gr G) (a : Addr) (n : Nat) (is : List Nat) (i₀ : Nat) (C : Addr) (sf : Str) {f : AEnv → Res Fl} {sts : List Stmt} {ts : List (Str × (AEnv → Res T))} (h : SPre G k (Xd G.K a).scope sts (Jd (Xd G.K a)) f) (ht : STail G k (Xd G.K a).scope C i₀ sf sts ts)
  (hbind : ∀ vs : List Value, vs.length = (Xk (Xd G.K a)).length → bindArgs (Xd G.K a) ⟨vs, []⟩ = pure ((Xk (Xd G.K a)).zip vs)) (hn : autoParam ((Qf (Xd G.K a).scope).length = n) aK._auto_1) (hi : autoParam (YT (Qf (Xd G.K a).scope) (Xk (Xd G.K a)) = is) aK._auto_1) (hsf : autoParam ((Qf (Xd G.K a).scope)[i₀]? = some sf) aK._auto_1)
  (hdb : autoParam ((sf == ("__debug__" : Str)) = false) aK._auto_1) (hcd : autoParam ((sf == ("__classdict__" : Str)) = false) aK._auto_1) (hp : autoParam (W.plainOver G.K C = true) aK._auto_1) (hh : autoParam ((W.clsIn G.K C).any (·.hasDict) = true) aK._auto_1)
  (hs : autoParam (W.findIn G.K (.ref C) "__setattr__" = some (some (.builtin "object.__setattr__"))) aK._auto_1) (hnd : autoParam (Ut (ts.map (·.1)) = true) aK._auto_1) (hnl : autoParam (Nat.ble ts.length 100 = true) aK._auto_1)
  (hf : autoParam (Wr G.K a = true) aK._auto_1) (hc : autoParam (W.codeIn G.K (Xd G.K a).code (Xd G.K a).qualname = true) aK._auto_1) (hpl : autoParam (WR (Xd G.K a) = true) aK._auto_1) :
  Wo G (k + 1) (.ref a) C (ts.map (·.1)) (B7 n is i₀ f ts) := FL g a n is i₀ C sf h ht hbind hn hi hsf hdb hcd hp hh hs hnd (Nat.le_of_ble_eq_true hnl) hf hc hpl
theorem rvI (g : Gr G) {tg e : Expr} {f : AEnv → Res T} (h : Sim G k sc e f) (he : autoParam (W.nsIn G.K mainGlobals ("reversed" : Str) = some none) aK._auto_1) (hx : autoParam (sc.names.lookup ("reversed" : Str) = some .globalImplicit) aK._auto_1) (hu : autoParam (QS e = true) aK._auto_1) : KF G k sc tg (.Call (.Name "reversed" p) [e] [] pos) (Gz f) :=
 FS (gB g (.type "reversed") he (by kernel_rfl) (by kernel_rfl) rfl hx (by kernel_rfl)) h hu
end
section
variable {G : Gd} {k : Nat} {sc : Scope}
theorem nmN : Names sc [] [] [] := .nil
theorem nmC {x : Str} {p : Pos} {es : List Expr} {xs : List Str} {is : List Nat} (i : Nat) (h : Names sc es xs is) (hx : autoParam ((Qf sc)[i]? = some x) aK._auto_1) : Names sc (.Name x p :: es) (x :: xs) (i :: is) := .cons hx h
end
noncomputable def KJ (i : Nat) (f : AEnv → Res T) : AEnv → Res T := fun ρ => match XD ρ i with
 | none => .stuck
 | some _ => (f ρ).bind fun t ρ₁ => match t with
  | .ow _ (.list es) => (match XD ρ₁ i with
   | some ds => if ds.length + es.length ≤ 1000000 then .ok (.sh .none) (ρ₁.set i (some (.ow true (.list (ds ++ es))))) else .stuck
   | none => .stuck)
  | _ => .stuck
section
variable {G : Gd} {k : Nat} {sc : Scope}
theorem C1 {x : Str} {p apos pos : Pos} {e : Expr} {i : Nat} {f : AEnv → Res T} (he : Sim G k sc e f) (hx : (Qf sc)[i]? = some x) (hd : (x == ("__debug__" : Str)) = false) (hn : (x == ("__classdict__" : Str)) = false)
  (hu : ∀ env, backTo pos (starEach [e] env) = [(false, eval e env)]) (hline : (apos.endLine == pos.line) = true) : UY G k sc (.Call (.Attribute (.Name x p) "extend" apos) [e] [] pos) (KJ i f) := by
 intro cx ok fn ρ S s r Q E out
 unfold KJ at out
 cases h0 : XD ρ i with
 | none => rw [h0] at out; exact out.elim
 | some ds₀ =>
  rw [h0] at out
  obtain ⟨t0, l0⟩ := ZB h0
  obtain ⟨a, vs, n, hv, ho, q, hsz⟩ := r.own hx t0
  refine wpAny_Call_method rfl (by rw [hu]; rfl) hline F.plainAttrs_list F.slot_list_extend F.type_list_extend ?_
  refine wpAny_Name (Xr (ok.mono (Nat.zero_le _)) hv hn rfl ?_) hd
  refine ⟨⟨_, ho, rfl⟩, fun b eb => ?_, ?_⟩
  ·cases eb; exact ⟨_, ho, rfl⟩
  rw [hu]
  refine PySem.P.extend_list ?_
  refine he cx ok ρ S s r _ _ ?_
  refine out.step0 fun t ρ₁ out v h₁ t₁ S₁ r₁ j₁ x₁ v₁ => ?_
  cases t with
  | sh d => exact out.elim
  | ow m d =>
   cases d with
   | list es =>
    have out : Out G cx sc true S s (fun S' h' v t => Yp cx S' h' v t) Q E (match XD ρ₁ i with | some ds => if ds.length + es.length ≤ 1000000 then .ok (T.sh .none) (ρ₁.set i (some (.ow true (.list (ds ++ es))))) else .stuck | none => .stuck) := out
    cases h1 : XD ρ₁ i with
    | none => rw [h1] at out; exact out.elim
    | some ds =>
     rw [h1] at out
     have out : Out G cx sc true S s (fun S' h' v t => Yp cx S' h' v t) Q E (if ds.length + es.length ≤ 1000000 then .ok (T.sh .none) (ρ₁.set i (some (.ow true (.list (ds ++ es))))) else .stuck) := out
     by_cases hl : ds.length + es.length ≤ 1000000
     ·rw [if_pos hl] at out
      obtain ⟨e1, l1⟩ := ZB h1
      obtain ⟨a', vs', n', hv', ho', q', hsz'⟩ := r₁.own hx e1
      cases Var.inj hv' (v₁ rfl x _ hv)
      obtain ⟨b, rfl, _, ⟨ws, m', hb, qb⟩, _⟩ := j₁
      have hws : ws.size = es.length := by rw [← qb.length]; exact Array.length_toList.symm
      refine ⟨b, vs', ws, n', m', ?_, ?_, ?_, rfl, ho', hb, ?_⟩
      ·rw [hsz', sizeLine_eq]; exact omB l1
      ·rw [hsz', hws, sizeLine_eq]; exact Nat.le_trans hl (Nat.le_add_left _ _)
      ·rw [hsz', hws]
       have : Builtin.List.listTooLong (ds.length + es.length) = false := by
        unfold Builtin.List.listTooLong
        rw [sizeLine_eq]
        exact decide_eq_false (by lia)
       rw [this, Bool.and_false]; decide
      ·obtain ⟨m₂, hm₂⟩ := Y7 (fun xs => xs ++ ws) ho'
       obtain ⟨r₂, x₂, v₂⟩ := r₁.mutate fn.bh hx e1 hv' (Heap.SameBut.update ..) hm₂ (ds' := ds ++ es) (by rw [Array.toList_append]; exact RVs.append qb q')
       exact out _ _ t₁ S₁ r₂ .none (x₁.trans x₂) fun z => (v₁ z).trans v₂
     ·rw [if_neg hl] at out; exact out.elim
   | _ => exact out.elim
theorem IO {x : Str} {p apos pos : Pos} {e : Expr} {f : AEnv → Res T} (i : Nat) (he : Sim G k sc e f) (hx : autoParam ((Qf sc)[i]? = some x) aK._auto_1) (hd : autoParam ((x == ("__debug__" : Str)) = false) aK._auto_1) (hn : autoParam ((x == ("__classdict__" : Str)) = false) aK._auto_1) (hu : autoParam (∀ env, backTo pos (starEach [e] env) = [(false, eval e env)]) aI._auto_1) (hline : autoParam ((apos.endLine == pos.line) = true) aR._auto_1) : UY G k sc (.Call (.Attribute (.Name x p) "extend" apos) [e] [] pos) (KJ i f) := C1 he hx hd hn hu hline
end
section
variable {G : Gd} {cx : Cx} {sc : Scope} {ρ ρ' : AEnv} {S C : Addr → Prop} {h h' hb : Heap}
open Classical in
end
noncomputable def KW (f : AEnv → Res T) : AEnv → Res T := fun ρ => (f ρ).bind fun t ρ₁ => .ok (.sh t.val) ρ₁
theorem Ee {G : Gd} {k : Nat} {sc : Scope} {e : Expr} {f : AEnv → Res T} (h : Sim G k sc e f) : Sim G k sc e (KW f) := by
 intro cx ok ρ S s r Q E out
 refine (h cx ok ρ S s r).shared Q E ?_
 unfold KW at out
 cases hf : f ρ with
 | stuck => rw [hf] at out; exact out
 | exc C ρ₁ => rw [hf] at out; exact out
 | ok t ρ₁ => rw [hf] at out; exact out
section
variable {prog : Program} {w : World} {A : Around} {E : Value → Shared → Prop} {s : Shared}
abbrev zipL1 (h : Heap) (l1 : Addr) : Heap := h.push { cls := .type "list_iterator", data := .fields #[.ref l1, .int 0 0] }
abbrev zipL2 (h : Heap) (l1 l2 : Addr) : Heap := (zipL1 h l1).push { cls := .type "tuple_iterator", data := .fields #[.ref l2, .int 0 0] }
abbrev zipL3 (h : Heap) (l1 l2 : Addr) : Heap := (zipL2 h l1 l2).push { cls := .type "tuple", data := .seq #[.ref h.objs.size, .ref (zipL1 h l1).objs.size] }
abbrev zipL4 (h : Heap) (l1 l2 : Addr) : Heap := (zipL3 h l1 l2).push { cls := .type "tuple", data := .seq #[.none, .none] }
abbrev zipL5 (h : Heap) (l1 l2 : Addr) : Heap := (zipL4 h l1 l2).push { cls := .type "zip", data := .fields #[.none, .bool false, .bool false, .ref (zipL2 h l1 l2).objs.size, .ref (zipL3 h l1 l2).objs.size] }
end
noncomputable def K9 (i : Nat) : AEnv → Res T := fun ρ => ob (XD ρ i) fun _ => .ok (.sh .none) (ρ.set i (some (.ow true (.list []))))
section
variable {G : Gd} {k : Nat} {sc : Scope}
theorem En {x : Str} {p apos pos : Pos} {i : Nat} (hx : (Qf sc)[i]? = some x) (hd : (x == ("__debug__" : Str)) = false) (hn : (x == ("__classdict__" : Str)) = false) (hline : (apos.endLine == pos.line) = true) : UY G k sc (.Call (.Attribute (.Name x p) "clear" apos) [] [] pos) (K9 i) := by
 intro cx ok fn ρ S s r Q E out
 obtain ⟨ds, h0, out⟩ := out.ob
 obtain ⟨t0, l0⟩ := ZB h0
 obtain ⟨a, vs, n, hv, ho, q, hsz⟩ := r.own hx t0
 refine wpAny_Call_method rfl rfl hline F.plainAttrs_list F.slot_list_clear F.type_list_clear ?_
 refine wpAny_Name (Xr (ok.mono (Nat.zero_le _)) hv hn rfl ?_) hd
 refine ⟨⟨_, ho, rfl⟩, fun b eb => ?_, ?_⟩
 ·cases eb; exact ⟨_, ho, rfl⟩
 refine PySem.P.clear_list ho ?_ (by rw [hsz, sizeLine_eq]; exact omB l0)
 obtain ⟨m', hm'⟩ := Y7 (fun _ => #[]) ho
 obtain ⟨r₂, x₂, v₂⟩ := r.mutate fn.bh hx t0 hv (Heap.SameBut.update ..) hm' (ds' := []) .nil
 exact out _ _ s.toks S r₂ .none x₂ fun _ => v₂
theorem IP {x : Str} {p apos pos : Pos} (i : Nat) (hx : autoParam ((Qf sc)[i]? = some x) aK._auto_1) (hd : autoParam ((x == ("__debug__" : Str)) = false) aK._auto_1) (hn : autoParam ((x == ("__classdict__" : Str)) = false) aK._auto_1) (hline : autoParam ((apos.endLine == pos.line) = true) aR._auto_1) : UY G k sc (.Call (.Attribute (.Name x p) "clear" apos) [] [] pos) (K9 i) := En hx hd hn hline
end
section
variable {G : Gd} {cx : Cx} {sc : Scope} {ρ : AEnv} {S S' : Addr → Prop} {h h' : Heap}
end
section
variable {G : Gd} {k : Nat} {sc : Scope}
end
section
variable {G : Gd} {k : Nat} {cx : Cx} {sc : Scope} {ρ : AEnv} {i : Nat} {x : Str} {C Sp : Addr → Prop} {hc h h' : Heap} {a0 a1 a2 : Addr}
end
abbrev Cx.base (cx : Cx) (h : Heap) (C : Addr → Prop) : Cx := { cx with h₀ := h, P := C }
section
variable {G : Gd} {k : Nat} {cx : Cx} {sc : Scope} {ρ ρ' : AEnv} {i : Nat} {x : Str} {C S' : Addr → Prop} {h h' : Heap} {a0 : Addr} {bs : List Addr} {ls : List (List D)}
theorem CxOk.based (ok : CxOk G cx sc k) (hB : G.B.StaysIn h) : CxOk G (cx.base h C) sc k := ⟨ok.hsc, ok.hk, ok.hg, ok.hb, ok.fr, ok.top, ok.hd, ok.room, ok.nodup, hB⟩
end
set_option genInjectivity false in
set_option genSizeOf false in
structure SEnv (n : Nat) (c : Nat → Nat → Bool) where
 M : Model
 A : Around
 E : Value → Shared → Prop
 s : Shared
 κ : SortKind
 v : Nat → Keyed
 ask : ∀ i j, i < n → j < n → ∀ C : Bool → Shared → Prop, C (c i j) s → wpAny M A (keyLt' κ (v i).1 (v j).1) C (fun _ _ => False) s
structure Sy where
 a : Array Nat
 p : Array (Nat × Nat × Nat)
 g : Nat
section
variable {n : Nat} {c : Nat → Nat → Bool} {α β R R' : Type} {σ σ' : Sy}
noncomputable def SEnv.st (e : SEnv n c) (σ : Sy) : SortSt := SortSt.mk' e.κ (σ.a.map e.v) σ.p σ.g none
noncomputable def Det (m : SEnv n c → StateT SortSt Sem α) (σ : Sy) (cr : SEnv n c → R → α) (Q : R → Sy → Prop) : Prop :=
 ∃ r σ', Q r σ' ∧ ∀ e : SEnv n c, wpS e.M e.A e.E e.s (m e) (fun a st => a = cr e r ∧ st = e.st σ') (e.st σ)
variable {cr : SEnv n c → R → α} {Q : R → Sy → Prop}
theorem Det.pure {a : SEnv n c → α} {r : R} (h : Q r σ) (he : autoParam (∀ e, a e = cr e r) aI._auto_1) : Det (fun e => Pure.pure (a e)) σ cr Q :=
 ⟨r, σ, h, fun e => wpS_pure ⟨he e, rfl⟩⟩
theorem Det.mono {m : SEnv n c → StateT SortSt Sem α} {Q' : R → Sy → Prop} (h : Det m σ cr Q) (hq : ∀ r σ', Q r σ' → Q' r σ') : Det m σ cr Q' := by
 obtain ⟨r, σ', h1, h2⟩ := h
 exact ⟨r, σ', hq _ _ h1, h2⟩
theorem Det.bind {m : SEnv n c → StateT SortSt Sem β} {k : SEnv n c → β → StateT SortSt Sem α} {cr' : SEnv n c → R' → β} (h : Det m σ cr' (fun r σ' => Det (fun e => k e (cr' e r)) σ' cr Q)) : Det (fun e => m e >>= k e) σ cr Q := by
 obtain ⟨r, σ', ⟨r2, σ2, h3, h4⟩, h2⟩ := h
 exact ⟨r2, σ2, h3, fun e => wpS_bind (wpS_mono (h2 e) fun a st q => by obtain ⟨rfl, rfl⟩ := q; exact h4 e)⟩
theorem Det.get {k : SEnv n c → SortSt → StateT SortSt Sem α} (h : Det (fun e => k e (e.st σ)) σ cr Q) : Det (fun e => (MonadState.get : StateT SortSt Sem SortSt) >>= k e) σ cr Q := by
 obtain ⟨r, σ', h1, h2⟩ := h
 exact ⟨r, σ', h1, fun e => wpS_bind (wpS_get (h2 e))⟩
theorem Det.modify {f : SEnv n c → SortSt → SortSt} {k : SEnv n c → PUnit → StateT SortSt Sem α} (hf : ∀ e, f e (e.st σ) = e.st σ') (h : Det (fun e => k e ⟨⟩) σ' cr Q) : Det (fun e => (_root_.modify (f e) : StateT SortSt Sem PUnit) >>= k e) σ cr Q := by
 obtain ⟨r, σ2, h1, h2⟩ := h
 exact ⟨r, σ2, h1, fun e => wpS_bind (wpS_modify (by rw [hf]; exact h2 e))⟩
theorem Det.rule {x : String} {k : SEnv n c → Unit → StateT SortSt Sem α} (h : Det (fun e => k e ()) σ cr Q) : Det (fun e => (liftM (PySem.rule x) : StateT SortSt Sem Unit) >>= k e) σ cr Q := by
 obtain ⟨r, σ2, h1, h2⟩ := h
 exact ⟨r, σ2, h1, fun e => wpS_bind (wpS_lift (wpAny_rule ⟨rfl, h2 e⟩))⟩
theorem Det.elem {arr : Array Nat} {i : Nat} {k : SEnv n c → Keyed → StateT SortSt Sem α} (hi : i < arr.size) (h : Det (fun e => k e (e.v (arr.getD i 0))) σ cr Q) : Det (fun e => elem' (arr.map e.v) i >>= k e) σ cr Q := by
 obtain ⟨r, σ2, h1, h2⟩ := h
 refine ⟨r, σ2, h1, fun e => ?_⟩
 have e1 : (arr.map e.v)[i]? = some (e.v (arr.getD i 0)) := by simp [Array.getD, hi]
 show wpS _ _ _ _ (elem' (arr.map e.v) i >>= k e) _ _
 rw [elem'_eq, e1]
 exact wpS_bind (wpS_pure (h2 e))
theorem Det.lt {i j : Nat} {k : SEnv n c → Option Bool → StateT SortSt Sem α} (hi : i < n) (hj : j < n) (h : Det (fun e => k e (some (c i j))) σ cr Q) : Det (fun e => lt' (e.v i) (e.v j) >>= k e) σ cr Q := by
 obtain ⟨r, σ2, h1, h2⟩ := h
 refine ⟨r, σ2, h1, fun e => ?_⟩
 show wpS _ _ _ _ (lt' (e.v i) (e.v j) >>= k e) _ _
 rw [lt'_eq]
 refine wpS_bind (wpS_bind (wpS_get ?_))
 refine wpS_bind (wpS_lift (wpAny_attempt (wpAny_mono (e.ask i j hi hj (fun b s' => b = c i j ∧ s' = e.s) ⟨rfl, rfl⟩) (fun b s' q => ?_) fun _ _ x => x.elim)))
 obtain ⟨rfl, rfl⟩ := q
 exact ⟨rfl, wpS_pure (h2 e)⟩
theorem Det.ltE {i j : Nat} {Q : Option Bool → Sy → Prop} (hi : i < n) (hj : j < n) (h : Q (some (c i j)) σ) : Det (fun e : SEnv n c => lt' (e.v i) (e.v j)) σ (fun _ r => r) Q := by
 refine ⟨some (c i j), σ, h, fun e => ?_⟩
 show wpS _ _ _ _ (lt' (e.v i) (e.v j)) _ _
 rw [lt'_eq]
 refine wpS_bind (wpS_get ?_)
 refine wpS_bind (wpS_lift (wpAny_attempt (wpAny_mono (e.ask i j hi hj (fun b s' => b = c i j ∧ s' = e.s) ⟨rfl, rfl⟩) (fun b s' q => ?_) fun _ _ x => x.elim)))
 obtain ⟨rfl, rfl⟩ := q
 exact ⟨rfl, wpS_pure ⟨rfl, rfl⟩⟩
theorem Det.ifT {p : SEnv n c → Prop} [∀ e, Decidable (p e)] {x y : SEnv n c → StateT SortSt Sem α} (hp : ∀ e, p e) (h : Det x σ cr Q) : Det (fun e => if p e then x e else y e) σ cr Q := by
 obtain ⟨r, σ2, h1, h2⟩ := h
 exact ⟨r, σ2, h1, fun e => by show wpS _ _ _ _ (if p e then x e else y e) _ _; rw [if_pos (hp e)]; exact h2 e⟩
theorem Det.ifF {p : SEnv n c → Prop} [∀ e, Decidable (p e)] {x y : SEnv n c → StateT SortSt Sem α} (hp : ∀ e, ¬ p e) (h : Det y σ cr Q) : Det (fun e => if p e then x e else y e) σ cr Q := by
 obtain ⟨r, σ2, h1, h2⟩ := h
 exact ⟨r, σ2, h1, fun e => by show wpS _ _ _ _ (if p e then x e else y e) _ _; rw [if_neg (hp e)]; exact h2 e⟩
noncomputable def XV {S β : Type} (cs : SEnv n c → S → β) (e : SEnv n c) : ForInStep S → ForInStep β
 | .done y => .done (cs e y)
 | .yield y => .yield (cs e y)
noncomputable def ZE {S : Type} (P I : S → Sy → Prop) : ForInStep S → Sy → Prop
 | .done y, σ => P y σ
 | .yield y, σ => I y σ
theorem Det.forR {S β : Type} {a m : Nat} {f : SEnv n c → Nat → β → StateT SortSt Sem (ForInStep β)} (cs : SEnv n c → S → β) (I : Nat → S → Sy → Prop) {P : S → Sy → Prop}
  (step : ∀ i x σ, a ≤ i → i < m → I i x σ → Det (fun e => f e i (cs e x)) σ (XV cs) (ZE P (I (i + 1)))) (fin : ∀ x σ, I m x σ → P x σ) (d : Nat) : ∀ (i : Nat) (x : S) (σ : Sy), i + d = m → a ≤ i → I i x σ → Det (fun e => forIn (List.range' i d) (cs e x) (f e)) σ cs P := by
 induction d with
 | zero => exact fun i x σ hd _ h => ⟨x, σ, fin x σ (hd ▸ h), fun e => wpS_pure ⟨rfl, rfl⟩⟩
 | succ d ih =>
  intro i x σ hd ha h
  obtain ⟨r, σ', h1, h2⟩ := step i x σ ha (Nat.lt_of_lt_of_eq (Nat.lt_add_of_pos_right (Nat.succ_pos d)) hd) h
  cases r with
  | done y => exact ⟨y, σ', h1, fun e => by show wpS _ _ _ _ (forIn (i :: List.range' (i + 1) d) (cs e x) (f e)) _ _; rw [List.forIn_cons]; exact wpS_bind (wpS_mono (h2 e) fun a st q => by obtain ⟨rfl, rfl⟩ := q; exact wpS_pure ⟨rfl, rfl⟩)⟩
  | yield y =>
   obtain ⟨r3, σ3, h3, h4⟩ := ih (i + 1) y σ' ((Nat.succ_add i d).trans hd) (Nat.le_succ_of_le ha) h1
   exact ⟨r3, σ3, h3, fun e => by show wpS _ _ _ _ (forIn (i :: List.range' (i + 1) d) (cs e x) (f e)) _ _; rw [List.forIn_cons]; exact wpS_bind (wpS_mono (h2 e) fun a st q => by obtain ⟨rfl, rfl⟩ := q; exact h4 e)⟩
theorem C2 (a b : Nat) {β : Type} {m : Type → Type} [Monad m] [LawfulMonad m] (x : β) (f : Nat → β → m (ForInStep β)) : (forIn [a:b] x f : m β) = forIn (List.range' a (b - a)) x f := by
 rw [Std.Legacy.Range.forIn_eq_forIn_range']
 have hsz : ([a:b] : Std.Legacy.Range).size = b - a := by simp [Std.Legacy.Range.size]
 show forIn (List.range' a ([a:b] : Std.Legacy.Range).size 1) x f = _
 rw [hsz]
theorem Det.forRange {S β : Type} {a b : Nat} {f : SEnv n c → Nat → β → StateT SortSt Sem (ForInStep β)} (cs : SEnv n c → S → β) (I : Nat → S → Sy → Prop) {P : S → Sy → Prop} {x : S}
  (step : ∀ i x σ, a ≤ i → i < b → I i x σ → Det (fun e => f e i (cs e x)) σ (XV cs) (ZE P (I (i + 1)))) (fin : ∀ x σ, I (max a b) x σ → P x σ) (h : I a x σ) : Det (fun e => forIn [a:b] (cs e x) (f e)) σ cs P := by
 have key := Det.forR (f := f) cs I (a := a) (m := max a b) (P := P) (fun i x σ ha hi q => step i x σ ha (Nat.lt_of_not_ge fun h => Nat.lt_irrefl _ (Nat.lt_of_lt_of_le hi (Nat.max_le.mpr ⟨ha, h⟩))) q) fin (b - a) a x σ ((Nat.add_comm _ _).trans ((Nat.sub_add_eq_max _ _).trans (Nat.max_comm _ _))) (Nat.le_refl _) h
 obtain ⟨r, σ', h1, h2⟩ := key
 refine ⟨r, σ', h1, fun e => ?_⟩
 show wpS _ _ _ _ (forIn [a:b] (cs e x) (f e)) _ _
 rw [C2]; exact h2 e
end
noncomputable def Jg : Bool → Keyed → Array Keyed → Nat → Nat → Nat → StateT SortSt Sem (Option Nat) := sortPriv% PySem.Builtin.gallop
section
variable {n : Nat} {c : Nat → Nat → Bool} {σ : Sy}
theorem Det.ask {left : Bool} {x key : Nat} {Q : Option Bool → Sy → Prop} (hx : x < n) (hk : key < n) (h : ∀ b, Q (some b) σ) : Det (fun e : SEnv n c => if left = true then lt' (e.v x) (e.v key) else (lt' (e.v key) (e.v x) >>= fun r => Pure.pure (r.map fun b => !b))) σ (fun _ r => r) Q := by
 cases left with
 | true => exact Det.ifT (fun _ => rfl) (Det.ltE hx hk (h _))
 | false => exact Det.ifF (fun _ q => by cases q) (Det.lt hk hx (Det.pure (r := some !(c key x)) (h _)))
noncomputable def QI (n : Nat) (arr : Array Nat) : Prop := ∀ x ∈ arr, x < n
theorem QI.get {arr : Array Nat} (h : QI n arr) {i : Nat} (hi : i < arr.size) : arr.getD i 0 < n := by
 have e : arr.getD i 0 = arr[i] := by simp [Array.getD, hi]
 rw [e]; exact h _ (Array.getElem_mem hi)
theorem QI.push {arr : Array Nat} (h : QI n arr) {x : Nat} (hx : x < n) : QI n (arr.push x) := fun y hy => by
 rcases Array.mem_push.mp hy with hy | rfl
 ·exact h y hy
 ·exact hx
theorem QI.app {a b : Array Nat} (h : QI n a) (h2 : QI n b) : QI n (a ++ b) := fun y hy => (Array.mem_append.mp hy).elim (h y) (h2 y)
theorem QI.cut {a : Array Nat} (h : QI n a) (i j : Nat) : QI n (a.extract i j) := fun y hy => by
 obtain ⟨k, _, rfl⟩ := Array.mem_extract_iff_getElem.mp hy
 exact h _ (Array.getElem_mem _)
theorem QI.rev {a : Array Nat} (h : QI n a) : QI n a.reverse := fun y hy => h y (Array.mem_reverse.mp hy)
theorem QI.one {x : Nat} (h : x < n) : QI n #[x] := fun y hy => by
 rw [show y = x by simpa using hy]; exact h
theorem QI.setB {a : Array Nat} (h : QI n a) (i : Nat) {x : Nat} (hx : x < n) : QI n (a.setIfInBounds i x) := fun y hy => by
 rcases Array.mem_or_eq_of_mem_setIfInBounds hy with hy | rfl
 ·exact h y hy
 ·exact hx
theorem Ws {left : Bool} {key : Nat} {arr : Array Nat} {base m hint : Nat} (hk : key < n) (ha : QI n arr) (hb : base + m ≤ arr.size) (hh : hint < m) : Det (fun e : SEnv n c => Jg left (e.v key) (arr.map e.v) base m hint) σ (fun _ r => r) (fun r σ' => σ' = σ ∧ ∃ k, r = some k ∧ k ≤ m) := by
 have hE : ∀ {i}, i < m → base + i < arr.size := fun h => Nat.lt_of_lt_of_le (Nat.add_lt_add_left h _) hb
 have hM : ∀ {y1 y2}, ¬ y1 ≥ y2 → y1 + (y2 - y1) / 2 < y2 := fun h => Nat.add_lt_of_lt_sub' (Nat.div_lt_self (Nat.sub_pos_of_lt (Nat.lt_of_not_ge h)) (by decide))
 refine Det.bind (cr' := fun _ (r : Option Bool) => r) ?_
 refine Det.elem (hE hh) (Det.ask (ha.get (hE hh)) hk fun b => ?_)
 cases b with
 | true =>
  dsimp only
  refine Det.ifT (fun _ => rfl) ?_
  refine Det.bind (Det.mono (Det.forRange (S := Option (Option Nat) × Nat × Nat) (x := (none, 0, 1)) (fun _ x => x) (fun _ x σ' => σ' = σ ∧ x.1 = none) (P := fun x σ' => σ' = σ ∧ x.1 = none) ?s1 (fun _ _ q => q) ⟨rfl, rfl⟩) ?p1)
  case s1 =>
   rintro i ⟨x0, x1, x2⟩ σ _ _ ⟨rfl, rfl⟩
   dsimp only
   by_cases h : x2 ≥ m - hint
   ·exact Det.ifT (fun _ => h) (Det.pure (r := .done (none, x1, x2)) ⟨rfl, rfl⟩)
   ·refine Det.ifF (fun _ => h) ?_
    refine Det.bind (cr' := fun _ (r : Option Bool) => r) (Det.elem (hE (Nat.add_lt_of_lt_sub' (Nat.lt_of_not_ge h))) (Det.ask (ha.get (hE (Nat.add_lt_of_lt_sub' (Nat.lt_of_not_ge h)))) hk fun b => ?_))
    cases b with
    | true => exact Det.ifF (fun _ q => by cases q) (Det.pure (r := .yield (none, x2, 2 * x2 + 1)) ⟨rfl, rfl⟩)
    | false => exact Det.ifT (fun _ => rfl) (Det.pure (r := .done (none, x1, x2)) ⟨rfl, rfl⟩)
  case p1 =>
   rintro ⟨x0, x1, x2⟩ σ ⟨rfl, rfl⟩
   dsimp only
   refine Det.bind (Det.mono (Det.forRange (S := Option (Option Nat) × Nat × Nat) (x := (none, hint + x1 + 1, hint + min x2 (m - hint))) (fun _ x => x) (fun _ x σ' => σ' = σ ∧ x.1 = none ∧ x.2.2 ≤ m) (P := fun x σ' => σ' = σ ∧ x.1 = none ∧ x.2.2 ≤ m) ?s2 (fun _ _ q => q) ⟨rfl, rfl, Nat.le_trans (Nat.add_le_add_left (Nat.min_le_right _ _) _) (Nat.le_of_eq (Nat.add_sub_of_le (Nat.le_of_lt hh)))⟩) ?p2)
   case s2 =>
    rintro i ⟨y0, y1, y2⟩ σ _ _ ⟨rfl, rfl, hy⟩
    dsimp only at hy ⊢
    by_cases h : y1 ≥ y2
    ·exact Det.ifT (fun _ => h) (Det.pure (r := .done (none, y1, y2)) ⟨rfl, rfl, hy⟩)
    ·refine Det.ifF (fun _ => h) ?_
     refine Det.bind (cr' := fun _ (r : Option Bool) => r) (Det.elem (hE (Nat.lt_of_lt_of_le (hM h) hy)) (Det.ask (ha.get (hE (Nat.lt_of_lt_of_le (hM h) hy))) hk fun b => ?_))
     cases b with
     | true => exact Det.ifT (fun _ => rfl) (Det.pure (r := .yield (none, y1 + (y2 - y1) / 2 + 1, y2)) ⟨rfl, rfl, hy⟩)
     | false => exact Det.ifF (fun _ q => by cases q) (Det.pure (r := .yield (none, y1, y1 + (y2 - y1) / 2)) ⟨rfl, rfl, Nat.le_trans (Nat.le_of_lt (hM h)) hy⟩)
   case p2 =>
    rintro ⟨y0, y1, y2⟩ σ ⟨rfl, rfl, hy⟩
    exact Det.pure (r := some y2) ⟨rfl, y2, rfl, hy⟩
 | false =>
  dsimp only
  refine Det.ifF (fun _ q => by cases q) ?_
  refine Det.bind (Det.mono (Det.forRange (S := Option (Option Nat) × Nat × Nat) (x := (none, 0, 1)) (fun _ x => x) (fun _ x σ' => σ' = σ ∧ x.1 = none) (P := fun x σ' => σ' = σ ∧ x.1 = none) ?s3 (fun _ _ q => q) ⟨rfl, rfl⟩) ?p3)
  case s3 =>
   rintro i ⟨x0, x1, x2⟩ σ _ _ ⟨rfl, rfl⟩
   dsimp only
   by_cases h : x2 ≥ hint + 1
   ·exact Det.ifT (fun _ => h) (Det.pure (r := .done (none, x1, x2)) ⟨rfl, rfl⟩)
   ·refine Det.ifF (fun _ => h) ?_
    refine Det.bind (cr' := fun _ (r : Option Bool) => r) (Det.elem (hE (Nat.lt_of_le_of_lt (Nat.sub_le _ _) hh)) (Det.ask (ha.get (hE (Nat.lt_of_le_of_lt (Nat.sub_le _ _) hh))) hk fun b => ?_))
    cases b with
    | true => exact Det.ifT (fun _ => rfl) (Det.pure (r := .done (none, x1, x2)) ⟨rfl, rfl⟩)
    | false => exact Det.ifF (fun _ q => by cases q) (Det.pure (r := .yield (none, x2, 2 * x2 + 1)) ⟨rfl, rfl⟩)
  case p3 =>
   rintro ⟨x0, x1, x2⟩ σ ⟨rfl, rfl⟩
   dsimp only
   refine Det.bind (Det.mono (Det.forRange (S := Option (Option Nat) × Nat × Nat) (x := (none, hint + 1 - min x2 (hint + 1), hint - x1)) (fun _ x => x) (fun _ x σ' => σ' = σ ∧ x.1 = none ∧ x.2.2 ≤ m) (P := fun x σ' => σ' = σ ∧ x.1 = none ∧ x.2.2 ≤ m) ?s4 (fun _ _ q => q) ⟨rfl, rfl, Nat.le_trans (Nat.sub_le _ _) (Nat.le_of_lt hh)⟩) ?p4)
   case s4 =>
    rintro i ⟨y0, y1, y2⟩ σ _ _ ⟨rfl, rfl, hy⟩
    dsimp only at hy ⊢
    by_cases h : y1 ≥ y2
    ·exact Det.ifT (fun _ => h) (Det.pure (r := .done (none, y1, y2)) ⟨rfl, rfl, hy⟩)
    ·refine Det.ifF (fun _ => h) ?_
     refine Det.bind (cr' := fun _ (r : Option Bool) => r) (Det.elem (hE (Nat.lt_of_lt_of_le (hM h) hy)) (Det.ask (ha.get (hE (Nat.lt_of_lt_of_le (hM h) hy))) hk fun b => ?_))
     cases b with
     | true => exact Det.ifT (fun _ => rfl) (Det.pure (r := .yield (none, y1 + (y2 - y1) / 2 + 1, y2)) ⟨rfl, rfl, hy⟩)
     | false => exact Det.ifF (fun _ q => by cases q) (Det.pure (r := .yield (none, y1, y1 + (y2 - y1) / 2)) ⟨rfl, rfl, Nat.le_trans (Nat.le_of_lt (hM h)) hy⟩)
   case p4 =>
    rintro ⟨y0, y1, y2⟩ σ ⟨rfl, rfl, hy⟩
    exact Det.pure (r := some y2) ⟨rfl, y2, rfl, hy⟩
end
noncomputable def BM : Array Keyed → Array Keyed → StateT SortSt Sem (Array Keyed) := sortPriv% PySem.Builtin.mergeLo
abbrev SM (α : Type) := StateT SortSt Sem α
abbrev AK := Array Keyed
abbrev T1 := Option AK × AK × Nat × Nat × Nat
abbrev T2 := Option AK × AK × Nat × Nat × Nat × Nat
abbrev T3 := Option AK × AK × Nat × Nat × Nat × Nat × Nat
noncomputable def lo0 : {P : (AK → AK → Nat → T1 → SM (ForInStep T1)) × (T1 → SM AK) // ∀ a b, BM a b = (liftM (rule "list.sort.merge-lo") : SM Unit) >>= fun _ => elem' b 0 >>= fun x => if (1 == b.size) = true then pure (#[x] ++ a.extract 0 a.size ++ b.extract 1 b.size) else if (1 == a.size) = true then pure (#[x] ++ b.extract 1 b.size ++ a.extract 0 a.size) else get >>= fun s => forIn [0:a.size + b.size] (none, #[x], 0, 1, gallopOf s) (P.1 a b) >>= P.2} := ⟨(_, _), fun a b => rfl⟩
noncomputable def lo1 : {P : (AK → AK → T1 → Nat → T2 → SM (ForInStep T2)) × (AK → AK → T1 → T2 → SM (ForInStep T1)) // ∀ a b i s, lo0.1.1 a b i s = forIn [0:a.size + b.size] (none, s.2.1, s.2.2.1, s.2.2.2.1, 0, 0) (P.1 a b s) >>= P.2 a b s} := ⟨(_, _), fun _ _ _ _ => rfl⟩
noncomputable def loE : {P : AK → AK → Nat → AK → Nat → Nat → Nat → Nat → Option Bool → SM (ForInStep T2) // ∀ a b x1 o1 ia1 ib1 g i x0 o ia ib ac bc, lo1.1.1 a b (x1, o1, ia1, ib1, g) i (x0, o, ia, ib, ac, bc) = elem' b ib >>= fun x => elem' a ia >>= fun y => lt' x y >>= P a b g o ia ib ac bc} := by
 refine ⟨?_, fun a b x1 o1 ia1 ib1 g i x0 o ia ib ac bc => ?_⟩
 rotate_left 1
 dsimp (config := { instances := true }) only [lo1]
 exact rfl
noncomputable def lo2 : {P : (AK → AK → Nat → T3 → SM (ForInStep T3)) × (T3 → SM (ForInStep T1)) // ∀ a b s y, lo1.1.2 a b s (none, y) = (liftM (rule "list.sort.gallop") : SM Unit) >>= fun _ => forIn [0:a.size + b.size] (none, y.1, y.2.1, y.2.2.1, s.2.2.2.2 + 1, y.2.2.2.1, y.2.2.2.2) (P.1 a b) >>= P.2} := ⟨(_, _), fun _ _ _ _ => rfl⟩
noncomputable def lo3 : {P : AK → AK → AK → Nat → Nat → Nat → Nat → Nat → Option Nat → SM (ForInStep T3) // ∀ a b i x0 o ia ib g ac bc, ∃ T, lo2.1.1 a b i (x0, o, ia, ib, g, ac, bc) = if g > 1 then T else (modify (fun s => SortSt.mk' (kindOf s) (arrOf s) (pendingOf s) g (failedOf s)) : SM PUnit) >>= fun _ => elem' b ib >>= fun x => Jg false x a ia (a.size - ia) 0 >>= P a b o ia ib ac bc g} := by
 refine ⟨?_, fun a b i x0 o ia ib g ac bc => ⟨?_, ?_⟩⟩
 rotate_left 2
 dsimp (config := { instances := true }) only [lo2]
 exact rfl
noncomputable def lo4 (a b o : AK) (ia ib ac bc g : Nat) : SM (ForInStep T3) := (modify (fun s => SortSt.mk' (kindOf s) (arrOf s) (pendingOf s) g (failedOf s)) : SM PUnit) >>= fun _ => elem' b ib >>= fun x => Jg false x a ia (a.size - ia) 0 >>= lo3.1 a b o ia ib ac bc g
theorem HC (a b : AK) (i : Nat) (x0 : Option AK) (o : AK) (ia ib g ac bc : Nat) : lo2.1.1 a b i (x0, o, ia, ib, g, ac, bc) = if g > 1 then lo4 a b o ia ib ac bc (g - 1) else lo4 a b o ia ib ac bc g := rfl
section
variable {n : Nat} {c : Nat → Nat → Bool} {α R : Type} {σ σ₀ : Sy} {cr : SEnv n c → R → α} {Q : R → Sy → Prop} {a b o : Array Nat}
theorem Det.ite {p : Prop} [Decidable p] {T U : SEnv n c → StateT SortSt Sem α} (hT : p → Det T σ cr Q) (hU : ¬ p → Det U σ cr Q) : Det (fun e => if p then T e else U e) σ cr Q := by
 by_cases q : p
 ·exact Det.ifT (fun _ => q) (hT q)
 ·exact Det.ifF (fun _ => q) (hU q)
theorem Det.eq {m m' : SEnv n c → StateT SortSt Sem α} (he : ∀ e, m e = m' e) (h : Det m' σ cr Q) : Det m σ cr Q := by rw [funext he]; exact h
theorem Det.iteB {x y : Nat} {T U : SEnv n c → StateT SortSt Sem α} (hT : x = y → Det T σ cr Q) (hU : ¬ x = y → Det U σ cr Q) : Det (fun e => if (x == y) = true then T e else U e) σ cr Q := Det.ite (fun h => hT (beq_iff_eq.mp h)) fun h => hU fun z => h (beq_iff_eq.mpr z)
theorem J1 {β γ : Type} (f : β → γ) (a : Array β) (i j : Nat) : (a.map f).extract i j = (a.extract i j).map f := by simp
theorem UR {β γ : Type} (f : β → γ) (a b : Array β) : a.map f ++ b.map f = (a ++ b).map f := by simp
theorem Jy {β γ : Type} (f : β → γ) (a : Array β) (x : β) : (a.map f).push (f x) = (a.push x).map f := by simp
theorem UM (e : SEnv n c) (x : Nat) : #[e.v x] = #[x].map e.v := by simp
theorem Det.iteZ {x : Nat} {T U : SEnv n c → StateT SortSt Sem α} (hT : x = b.size → Det T σ cr Q) (hU : ¬ x = b.size → Det U σ cr Q) : Det (fun e => if (x == (b.map e.v).size) = true then T e else U e) σ cr Q :=
 Det.eq (fun e => by rw [Array.size_map]) (Det.iteB hT hU)
theorem szz (a b : Array Nat) (e : SEnv n c) : (a.map e.v).size + (b.map e.v).size = a.size + b.size := by rw [Array.size_map, Array.size_map]
theorem Det.forZ {S β : Type} {N : Nat} {B : SEnv n c → Nat} {f : SEnv n c → Nat → β → StateT SortSt Sem (ForInStep β)} (hB : ∀ e, B e = N) (cs : SEnv n c → S → β) (I : Nat → S → Sy → Prop) {P : S → Sy → Prop} {x : S}
  (step : ∀ i x σ, I i x σ → Det (fun e => f e i (cs e x)) σ (XV cs) (ZE P (I (i + 1)))) (fin : ∀ x σ, I N x σ → P x σ) (h : I 0 x σ) {k : SEnv n c → β → SM α} (hk : ∀ x σ, P x σ → Det (fun e => k e (cs e x)) σ cr Q) : Det (fun e => forIn [0:B e] (cs e x) (f e) >>= k e) σ cr Q :=
 Det.eq (fun e => by rw [hB]) (Det.bind (Det.mono (Det.forRange cs I (fun i x σ _ _ => step i x σ) (fun x σ q => fin x σ (by rwa [Nat.zero_max] at q)) h) hk))
theorem Det.eeLt {i j : Nat} {k : SEnv n c → Option Bool → SM α} (ha : QI n a) (hb : QI n b) (hj : j < b.size) (hi : i < a.size) (h : ∀ w, Det (fun e => k e (some w)) σ cr Q) : Det (fun e => elem' (b.map e.v) j >>= fun x => elem' (a.map e.v) i >>= fun y => lt' x y >>= k e) σ cr Q :=
 Det.elem hj (Det.elem hi (Det.lt (hb.get hj) (ha.get hi) (h _)))
theorem Det.elG {left : Bool} {i j h m' : Nat} {m : SEnv n c → Nat} {k : SEnv n c → Option Nat → SM α} (ha : QI n a) (hb : QI n b) (hi : i < a.size) (hm : ∀ e, m e = m') (hj : j + m' ≤ b.size) (hh : h < m') (hk : ∀ r, r ≤ m' → Det (fun e => k e (some r)) σ cr Q) : Det (fun e => elem' (a.map e.v) i >>= fun y => Jg left y (b.map e.v) j (m e) h >>= k e) σ cr Q :=
 Det.elem hi (Det.eq (fun e => by rw [hm]) (Det.bind (Det.mono (Ws (ha.get hi) hb hj hh) fun r σ' q => by
  obtain ⟨rfl, r, rfl, h⟩ := q
  exact hk r h)))
noncomputable def csM {τ : Type} (e : SEnv n c) (x : Option (Array Nat) × Array Nat × τ) : Option (Array Keyed) × Array Keyed × τ := (x.1.map (·.map e.v), x.2.1.map e.v, x.2.2)
theorem dn (e : SEnv n c) (i j : Nat) : o.map e.v ++ (a.map e.v).extract i (a.map e.v).size ++ (b.map e.v).extract j (b.map e.v).size = (o ++ a.extract i ++ b.extract j).map e.v := by simp only [Array.size_map, J1, UR]
structure Mg (n : Nat) (σ₀ σ : Sy) (a b : Array Nat) (k : Nat) (o : Array Nat) (ia ib : Nat) : Prop where
 low : QI n o
 la : ia + 1 < a.size
 lb : ib < b.size
 k : k ≤ ia + ib
 e : σ.a = σ₀.a ∧ σ.p = σ₀.p
noncomputable def Jh (n : Nat) (σ₀ σ : Sy) (x : Option (Array Nat)) : Prop := ∃ r, x = some r ∧ QI n r ∧ σ.a = σ₀.a ∧ σ.p = σ₀.p
noncomputable def Go (n : Nat) (σ₀ : Sy) (a b : Array Nat) (k : Nat) {τ : Type} (x : Option (Array Nat) × Array Nat × Nat × Nat × τ) (σ : Sy) : Prop := x.1 = none ∧ Mg n σ₀ σ a b k x.2.1 x.2.2.1 x.2.2.2.1
noncomputable def F8 (n : Nat) (σ₀ : Sy) (a b : Array Nat) (k : Nat) {τ : Type} (x : Option (Array Nat) × Array Nat × Nat × Nat × τ) (σ : Sy) : Prop := Jh n σ₀ σ x.1 ∨ Go n σ₀ a b k x σ
theorem Det.fin {τ : Type} {y : τ} {i j : Nat} {O : SEnv n c → AK} {Z I : Option (Array Nat) × Array Nat × τ → Sy → Prop} (hO : ∀ e, O e = o.map e.v) (lo : QI n o) (ha : QI n a) (hb : QI n b) (he : σ.a = σ₀.a ∧ σ.p = σ₀.p) (hq : ∀ x σ, Jh n σ₀ σ x.1 → Z x σ) :
  Det (fun e : SEnv n c => (Pure.pure (ForInStep.done (some (O e ++ (a.map e.v).extract i (a.map e.v).size ++ (b.map e.v).extract j (b.map e.v).size), O e, y)) : SM _)) σ (XV csM) (ZE Z I) :=
 Det.pure (r := .done (some (o ++ a.extract i ++ b.extract j), o, y)) (hq _ _ ⟨_, rfl, (lo.app (ha.cut _ _)).app (hb.cut _ _), he⟩) fun e => by rw [hO, dn]; rfl
theorem Det.leaf {τ : Type} {y : τ} {i j l x : Nat} {d : Array Nat} {p : Prop} [Decidable p] {O : SEnv n c → AK} {Z I : Option (Array Nat) × Array Nat × τ → Sy → Prop} (hO : ∀ e, O e = o.map e.v) (lo : QI n o) (hd : QI n d) (hl : l < d.size) (ha : QI n a) (hb : QI n b) (he : σ.a = σ₀.a ∧ σ.p = σ₀.p) (hq : ∀ x σ, Jh n σ₀ σ x.1 → Z x σ) (h : ∀ o', QI n o' → x ≠ b.size → Z (none, o', y) σ ∧ I (none, o', y) σ) :
  Det (fun e : SEnv n c => elem' (d.map e.v) l >>= fun z => if (x == (b.map e.v).size) = true then (Pure.pure (ForInStep.done (some ((O e).push z ++ (a.map e.v).extract i (a.map e.v).size ++ (b.map e.v).extract j (b.map e.v).size), (O e).push z, y)) : SM _) else if p then Pure.pure (.done (none, (O e).push z, y)) else Pure.pure (.yield (none, (O e).push z, y))) σ (XV csM) (ZE Z I) := by
 have l' := lo.push (hd.get hl)
 have hP : ∀ e, (O e).push (e.v (d.getD l 0)) = (o.push (d.getD l 0)).map e.v := fun e => by rw [hO, Jy]
 exact Det.elem hl (Det.iteZ (fun _ => Det.fin hP l' ha hb he hq) fun z => Det.ite (fun _ => Det.pure (r := .done (none, _, y)) (h _ l' z).1 fun e => by rw [hP]; rfl) fun _ => Det.pure (r := .yield (none, _, y)) (h _ l' z).2 fun e => by rw [hP]; rfl)
theorem Det.mid {τ : Type} {y : τ} {i j l l' s' m' h x : Nat} {q : Array Nat} {m : SEnv n c → Nat} {O : SEnv n c → AK} {Z I : Option (Array Nat) × Array Nat × τ → Sy → Prop} {k : SEnv n c → Keyed → Option Nat → SM (ForInStep (Option AK × AK × τ))} (hO : ∀ e, O e = o.map e.v) (lo : QI n o) (hl : l < b.size) (ha : QI n a) (hb : QI n b) (he : σ.a = σ₀.a ∧ σ.p = σ₀.p) (hq : ∀ x σ, Jh n σ₀ σ x.1 → Z x σ) (hq' : QI n q) (hl' : l' < q.size) (hm : ∀ e, m e = m') (hj : s' + m' ≤ b.size) (hh : x ≠ b.size → h < m') (hk : ∀ r, x ≠ b.size → r ≤ m' → Det (fun e => k e (e.v (b.getD l 0)) (some r)) σ (XV csM) (ZE Z I)) :
  Det (fun e : SEnv n c => elem' (b.map e.v) l >>= fun z => if (x == (b.map e.v).size) = true then (Pure.pure (ForInStep.done (some ((O e).push z ++ (a.map e.v).extract i (a.map e.v).size ++ (b.map e.v).extract j (b.map e.v).size), (O e).push z, y)) : SM _) else elem' (q.map e.v) l' >>= fun z' => Jg true z' (b.map e.v) s' (m e) h >>= k e z) σ (XV csM) (ZE Z I) :=
 Det.elem hl (Det.iteZ (fun _ => Det.fin (fun e => by rw [hO, Jy]) (lo.push (hb.get hl)) ha hb he hq) fun z => Det.elG hq' hb hl' hm hj (hh z) fun r hr => hk r z hr)
theorem G6 {i t k : Nat} {x : Option (Array Nat) × Array Nat × Nat × Nat × Nat} {y : Option (Array Nat) × Array Nat × Nat × Nat × Nat × Nat} (ha : QI n a) (hb : QI n b) (m : Mg n σ₀ σ a b (1 + t + k) y.2.1 y.2.2.1 y.2.2.2.1) : Det (fun e : SEnv n c => lo1.1.1 (a.map e.v) (b.map e.v) (csM e x) i (csM e y)) σ (XV csM) (ZE (F8 n σ₀ a b (1 + t + 1)) (Go n σ₀ a b (1 + t + (k + 1)))) := by
 refine Det.eq (fun e => loE.2 _ _ _ _ _ _ _ _ _ _ _ _ _ _) (Det.eeLt ha hb m.lb (Nat.lt_of_succ_lt m.la) fun w => ?_)
 obtain ⟨lo, la, lb, mk, me⟩ := m
 have h1 := Nat.succ_le_succ mk
 have h2 := Nat.succ_le_succ (Nat.le_trans (Nat.le_add_right _ _) mk)
 have h3 := Nat.succ_add y.2.2.1 y.2.2.2.1
 refine Det.ite (fun _ => Det.leaf (fun _ => rfl) lo hb lb ha hb me (fun _ _ => .inl) fun o' l z => ?_) fun _ => Det.leaf (fun _ => rfl) lo ha (Nat.lt_of_succ_lt la) hb ha me (fun _ _ => .inl) fun o' l z => ?_
 ·have lb' := Nat.lt_of_le_of_ne lb z
  exact ⟨.inr ⟨rfl, l, la, lb', h2, me⟩, rfl, l, la, lb', h1, me⟩
 ·have la' := Nat.lt_of_le_of_ne la z
  exact ⟨.inr ⟨rfl, l, la', lb, h3 ▸ h2, me⟩, rfl, l, la', lb, h3 ▸ h1, me⟩
theorem DD {k ia ib bc g ac : Nat} (ha : QI n a) (hb : QI n b) (m : Mg n σ₀ σ a b k o ia ib) : Det (fun e : SEnv n c => lo4 (a.map e.v) (b.map e.v) (o.map e.v) ia ib ac bc g) σ (XV csM) (ZE (F8 n σ₀ a b k) (Go n σ₀ a b k)) := by
 obtain ⟨lo, la, lb, mk, me⟩ := m
 have la' := Nat.lt_of_succ_lt la
 refine Det.modify (σ' := { σ with g := g }) (fun _ => rfl) (Det.elG (m' := a.size - ia) hb ha lb (fun e => by rw [Array.size_map]) (Nat.le_of_eq (Nat.add_sub_of_le (Nat.le_of_lt la'))) (Nat.sub_pos_of_lt la') fun k1 h1 => ?_)
 have h3 : ia + k1 ≤ a.size := Nat.add_le_of_le_sub' (Nat.le_of_lt la') h1
 have key : ∀ u w o' (y : Nat × Nat × Nat), QI n o' → ia ≤ u → u + 1 < a.size → ib ≤ w → w < b.size → u + 1 + 1 ≠ a.size → F8 n σ₀ a b k (none, o', u + 1, w, y) { σ with g := g } ∧ Go n σ₀ a b k (none, o', u + 1, w, y) { σ with g := g } := fun u w o' y l h1 h2 h3 h4 h5 => by
  have : Mg n σ₀ { σ with g := g } a b k o' (u + 1) w := ⟨l, Nat.lt_of_le_of_ne h2 h5, h4, Nat.le_trans mk (Nat.add_le_add (Nat.le_succ_of_le h1) h3), me⟩
  exact ⟨.inr ⟨rfl, this⟩, rfl, this⟩
 have tail : ∀ {O : SEnv n c → AK} {o' : Array Nat}, (∀ e, O e = o'.map e.v) → QI n o' → ∀ r, r ≤ b.size - (ib + 1) → (∀ e, (O e).push (e.v (b.getD ib 0)) = (o'.push (b.getD ib 0)).map e.v) ∧ QI n (o'.push (b.getD ib 0)) ∧ (∀ e, (O e).push (e.v (b.getD ib 0)) ++ (b.map e.v).extract (ib + 1) (ib + 1 + r) = (o'.push (b.getD ib 0) ++ b.extract (ib + 1) (ib + 1 + r)).map e.v) ∧ QI n (o'.push (b.getD ib 0) ++ b.extract (ib + 1) (ib + 1 + r)) ∧ ib + 1 + r ≤ b.size := fun hO l r hr =>
  have hP := fun e => by rw [hO, Jy]
  ⟨hP, l.push (hb.get lb), fun e => by rw [hP, J1, UR], (l.push (hb.get lb)).app (hb.cut _ _), Nat.add_le_of_le_sub' lb hr⟩
 have hj : ib + 1 + (b.size - (ib + 1)) ≤ b.size := Nat.le_of_eq (Nat.add_sub_of_le lb)
 have hh : ib + 1 ≠ b.size → 0 < b.size - (ib + 1) := fun z => Nat.sub_pos_of_lt (Nat.lt_of_le_of_ne lb z)
 have b1 := Nat.le_succ ib
 have b2 : ∀ r, ib ≤ ib + 1 + r := fun r => Nat.le_trans b1 (Nat.le_add_right _ _)
 have hR : ∀ e : SEnv n c, o.map e.v ++ (a.map e.v).extract ia (ia + k1) = (o ++ a.extract ia (ia + k1)).map e.v := fun e => by rw [J1, UR]
 have lR := lo.app (ha.cut ia (ia + k1))
 refine Det.ite (fun _ => Det.iteZ (fun _ => Det.fin hR lR hb ha me fun _ _ => .inl) fun z => Det.iteZ (fun _ => Det.fin hR lR ha hb me fun _ _ => .inl) fun z2 => ?_) fun _ => ?_
 ·have lk := Nat.lt_of_le_of_ne (Nat.lt_of_le_of_ne h3 z2) z
  refine Det.mid hR lR lb ha hb me (fun _ _ => .inl) ha (Nat.lt_of_succ_lt lk) (fun e => by rw [Array.size_map]) hj hh fun r z3 hr => ?_
  obtain ⟨hP, lP, hS, lS, hx⟩ := tail hR lR r hr
  exact Det.ite (fun _ => Det.iteZ (fun _ => Det.fin hS lS ha hb me fun _ _ => .inl) fun z4 => Det.leaf hS lS ha (Nat.lt_of_succ_lt lk) hb ha me (fun _ _ => .inl) fun o' l z => key _ _ _ _ l (Nat.le_add_right _ _) lk (b2 r) (Nat.lt_of_le_of_ne hx z4) z) fun _ => Det.leaf hP lP ha (Nat.lt_of_succ_lt lk) hb ha me (fun _ _ => .inl) fun o' l z => key _ _ _ _ l (Nat.le_add_right _ _) lk b1 (Nat.lt_of_le_of_ne lb z3) z
 ·refine Det.mid (fun _ => rfl) lo lb ha hb me (fun _ _ => .inl) ha la' (fun e => by rw [Array.size_map]) hj hh fun r z3 hr => ?_
  obtain ⟨hP, lP, hS, lS, hx⟩ := tail (fun _ => rfl) lo r hr
  exact Det.ite (fun _ => Det.iteZ (fun _ => Det.fin hS lS ha hb me fun _ _ => .inl) fun z4 => Det.leaf hS lS ha la' hb ha me (fun _ _ => .inl) fun o' l z => key _ _ _ _ l (Nat.le_refl _) la (b2 r) (Nat.lt_of_le_of_ne hx z4) z) fun _ => Det.leaf hP lP ha la' hb ha me (fun _ _ => .inl) fun o' l z => key _ _ _ _ l (Nat.le_refl _) la b1 (Nat.lt_of_le_of_ne lb z3) z
theorem Gy {t : Nat} {x : Option (Array Nat) × Array Nat × Nat × Nat × Nat} {y : Array Nat × Nat × Nat × Nat × Nat} (ha : QI n a) (hb : QI n b) (m : Mg n σ₀ σ a b (1 + t) y.1 y.2.1 y.2.2.1) : Det (fun e : SEnv n c => lo1.1.2 (a.map e.v) (b.map e.v) (csM e x) (csM e (none, y))) σ (XV csM) (ZE (fun x σ => Jh n σ₀ σ x.1) (Go n σ₀ a b (1 + t))) := by
 refine Det.eq (fun e => lo2.2 _ _ _ _) (Det.rule (Det.forZ (szz a b) csM (x := (none, y.1, y.2.1, y.2.2.1, x.2.2.2.2 + 1, y.2.2.2.1, y.2.2.2.2)) (fun _ => Go n σ₀ a b (1 + t)) (P := F8 n σ₀ a b (1 + t)) (fun i z σ q => ?_) (fun _ _ => .inr) ⟨rfl, m⟩ ?k2))
 ·exact Det.eq (fun e => HC _ _ _ _ _ _ _ _ _ _) (Det.ite (fun _ => DD ha hb q.2) fun _ => DD ha hb q.2)
 case k2 =>
  rintro ⟨x0, z⟩ σ (⟨r, rfl, q⟩ | ⟨rfl, m⟩)
  ·exact Det.pure (r := .done (some r, z.1, z.2.1, z.2.2.1, z.2.2.2.1)) ⟨r, rfl, q⟩
  ·exact Det.modify (σ' := { σ with g := z.2.2.2.1 + 1 }) (fun _ => rfl) (Det.pure (r := .yield (none, z.1, z.2.1, z.2.2.1, z.2.2.2.1 + 1)) ⟨rfl, m.low, m.la, m.lb, m.k, m.e⟩)
theorem GN {i t : Nat} {x : Option (Array Nat) × Array Nat × Nat × Nat × Nat} (ha : QI n a) (hb : QI n b) (m : Mg n σ₀ σ a b (1 + t) x.2.1 x.2.2.1 x.2.2.2.1) : Det (fun e : SEnv n c => lo0.1.1 (a.map e.v) (b.map e.v) i (csM e x)) σ (XV csM) (ZE (fun x σ => Jh n σ₀ σ x.1) (Go n σ₀ a b (1 + (t + 1)))) := by
 refine Det.eq (fun e => lo1.2 _ _ _ _) (Det.forZ (szz a b) csM (x := (none, x.2.1, x.2.2.1, x.2.2.2.1, 0, 0)) (fun k => Go n σ₀ a b (1 + t + k)) (P := F8 n σ₀ a b (1 + t + 1)) (fun i y σ q => G6 ha hb q.2) (fun y σ q => .inr ⟨q.1, q.2.low, q.2.la, q.2.lb, Nat.le_trans (Nat.add_le_add_left (Nat.le_trans (Nat.zero_lt_of_lt q.2.la) (Nat.le_add_right _ _)) _) q.2.k, q.2.e⟩) ⟨rfl, m⟩ ?k1)
 rintro ⟨x0, y⟩ σ (⟨r, rfl, q⟩ | ⟨rfl, m⟩)
 ·exact Det.pure (r := .done (some r, y.1, y.2.1, y.2.2.1, x.2.2.2.2)) ⟨r, rfl, q⟩
 ·exact Gy ha hb m
theorem BY {a b : Array Nat} (ha : QI n a) (hb : QI n b) (sa : 1 ≤ a.size) (sb : 1 ≤ b.size) : Det (fun e : SEnv n c => BM (a.map e.v) (b.map e.v)) σ (fun e r => r.map e.v) (fun r σ' => QI n r ∧ σ'.a = σ.a ∧ σ'.p = σ.p) := by
 have l0 := QI.one (hb.get sb)
 refine Det.eq (fun e => lo0.2 _ _) (Det.rule (Det.elem sb (Det.iteZ (fun _ => Det.pure (r := #[b.getD 0 0] ++ a.extract 0 ++ b.extract 1) ⟨(l0.app (ha.cut _ _)).app (hb.cut _ _), rfl, rfl⟩ fun e => by rw [UM, dn]) fun z => Det.iteZ (fun _ => Det.pure (r := #[b.getD 0 0] ++ b.extract 1 ++ a.extract 0) ⟨(l0.app (hb.cut _ _)).app (ha.cut _ _), rfl, rfl⟩ fun e => by rw [UM, dn]) fun z2 => Det.get ?_)))
 refine Det.eq (fun e => by rw [UM]) ?_
 refine Det.forZ (szz a b) csM (x := (none, #[b.getD 0 0], 0, 1, σ.g)) (fun t => Go n σ a b (1 + t)) (P := fun x σ' => Jh n σ σ' x.1) (fun i x σ q => GN ha hb q.2) (fun x σ q => ?_) ⟨rfl, l0, Nat.lt_of_le_of_ne sa z2, Nat.lt_of_le_of_ne sb z, Nat.le_refl _, rfl, rfl⟩ ?k1
 ·exact absurd (Nat.le_trans q.2.k (Nat.add_le_add (Nat.le_of_lt (Nat.lt_of_succ_lt q.2.la)) (Nat.le_of_lt q.2.lb))) (Nat.not_le_of_gt (Nat.lt_add_of_pos_left Nat.one_pos))
 case k1 =>
  rintro ⟨x0, y⟩ σ' ⟨r, rfl, q⟩
  exact Det.pure (r := r) q
end
noncomputable def CC : Array Keyed → Array Keyed → StateT SortSt Sem (Array Keyed) := sortPriv% PySem.Builtin.mergeHi
abbrev H1 := Option AK × Nat × Nat × AK × Nat
abbrev H2 := Option AK × Nat × Nat × AK × Nat × Nat
abbrev H3 := Option AK × Nat × Nat × AK × Nat × Nat × Nat
noncomputable def hi0 : {P : (AK → AK → Nat → H1 → SM (ForInStep H1)) × (H1 → SM AK) // ∀ a b, CC a b = (liftM (rule "list.sort.merge-hi") : SM Unit) >>= fun _ => elem' a (a.size - 1) >>= fun x => if (a.size - 1 == 0) = true then pure (a.extract 0 (a.size - 1) ++ b.extract 0 b.size ++ #[x].reverse) else if (b.size == 1) = true then pure (b.extract 0 b.size ++ a.extract 0 (a.size - 1) ++ #[x].reverse) else get >>= fun s => forIn [0:a.size + b.size] (none, a.size - 1, b.size, #[x], gallopOf s) (P.1 a b) >>= P.2} := ⟨(_, _), fun a b => rfl⟩
noncomputable def hi1 : {P : (AK → AK → H1 → Nat → H2 → SM (ForInStep H2)) × (AK → AK → H1 → H2 → SM (ForInStep H1)) // ∀ a b i s, hi0.1.1 a b i s = forIn [0:a.size + b.size] (none, s.2.1, s.2.2.1, s.2.2.2.1, 0, 0) (P.1 a b s) >>= P.2 a b s} := ⟨(_, _), fun _ _ _ _ => rfl⟩
noncomputable def hiE : {P : AK → AK → Nat → Nat → Nat → AK → Nat → Nat → Option Bool → SM (ForInStep H2) // ∀ a b x1 na1 nb1 o1 g i x0 na nb o ac bc, hi1.1.1 a b (x1, na1, nb1, o1, g) i (x0, na, nb, o, ac, bc) = elem' b (nb - 1) >>= fun x => elem' a (na - 1) >>= fun y => lt' x y >>= P a b g na nb o ac bc} := by
 refine ⟨?_, fun a b x1 na1 nb1 o1 g i x0 na nb o ac bc => ?_⟩
 rotate_left 1
 dsimp (config := { instances := true }) only [hi1]
 exact rfl
noncomputable def hi2 : {P : (AK → AK → Nat → H3 → SM (ForInStep H3)) × (H3 → SM (ForInStep H1)) // ∀ a b s y, hi1.1.2 a b s (none, y) = (liftM (rule "list.sort.gallop") : SM Unit) >>= fun _ => forIn [0:a.size + b.size] (none, y.1, y.2.1, y.2.2.1, s.2.2.2.2 + 1, y.2.2.2.1, y.2.2.2.2) (P.1 a b) >>= P.2} := ⟨(_, _), fun _ _ _ _ => rfl⟩
noncomputable def hi3 : {P : AK → AK → Nat → Nat → AK → Nat → Nat → Nat → Option Nat → SM (ForInStep H3) // ∀ a b i x0 na nb o g ac bc, ∃ T, hi2.1.1 a b i (x0, na, nb, o, g, ac, bc) = if g > 1 then T else (modify (fun s => SortSt.mk' (kindOf s) (arrOf s) (pendingOf s) g (failedOf s)) : SM PUnit) >>= fun _ => elem' b (nb - 1) >>= fun x => Jg false x a 0 na (na - 1) >>= P a b na nb o ac bc g} := by
 refine ⟨?_, fun a b i x0 na nb o g ac bc => ⟨?_, ?_⟩⟩
 rotate_left 2
 dsimp (config := { instances := true }) only [hi2]
 exact rfl
noncomputable def hi4 (a b : AK) (na nb : Nat) (o : AK) (ac bc g : Nat) : SM (ForInStep H3) := (modify (fun s => SortSt.mk' (kindOf s) (arrOf s) (pendingOf s) g (failedOf s)) : SM PUnit) >>= fun _ => elem' b (nb - 1) >>= fun x => Jg false x a 0 na (na - 1) >>= hi3.1 a b na nb o ac bc g
theorem HZ (a b : AK) (i : Nat) (x0 : Option AK) (na nb : Nat) (o : AK) (g ac bc : Nat) : hi2.1.1 a b i (x0, na, nb, o, g, ac, bc) = if g > 1 then hi4 a b na nb o ac bc (g - 1) else hi4 a b na nb o ac bc g := rfl
theorem omh {x y t k k' S : Nat} (h : x + y + (t + k) ≤ S) (hx : 1 ≤ x) (hk : k' ≤ k + 1) : x - 1 + y + (t + k') ≤ S := by
 refine Nat.le_trans (Nat.add_le_add_left (Nat.add_le_add_left hk _) _) (Nat.le_trans (Nat.le_of_eq ?_) h)
 show x - 1 + y + (t + k) + 1 = _
 rw [Nat.add_right_comm, Nat.add_right_comm (x - 1), Nat.sub_add_cancel hx]
theorem Il {x y t k k' S : Nat} (h : x + y + (t + k) ≤ S) (hx : 1 ≤ y) (hk : k' ≤ k + 1) : x + (y - 1) + (t + k') ≤ S := by
 rw [Nat.add_comm x] at h ⊢; exact omh h hx hk
section
variable {n : Nat} {c : Nat → Nat → Bool} {σ σ₀ : Sy} {a b o : Array Nat}
theorem V2 {β γ : Type} (f : β → γ) (a : Array β) : (a.map f).reverse = a.reverse.map f := by simp
noncomputable def csH {τ : Type} (e : SEnv n c) (x : Option (Array Nat) × Nat × Nat × Array Nat × τ) : Option (Array Keyed) × Nat × Nat × Array Keyed × τ := (x.1.map (·.map e.v), x.2.1, x.2.2.1, x.2.2.2.1.map e.v, x.2.2.2.2)
theorem dnH (e : SEnv n c) (i j : Nat) : (a.map e.v).extract 0 i ++ (b.map e.v).extract 0 j ++ (o.map e.v).reverse = (a.extract 0 i ++ b.extract 0 j ++ o.reverse).map e.v := by simp only [J1, UR, V2]
structure Mh (n : Nat) (σ₀ σ : Sy) (a b : Array Nat) (k : Nat) (na nb : Nat) (o : Array Nat) : Prop where
 low : QI n o
 na1 : 1 ≤ na
 naa : na ≤ a.size
 nb2 : 2 ≤ nb
 nbb : nb ≤ b.size
 k : na + nb + k ≤ a.size + b.size
 e : σ.a = σ₀.a ∧ σ.p = σ₀.p
noncomputable def GoH (n : Nat) (σ₀ : Sy) (a b : Array Nat) (k : Nat) {τ : Type} (x : Option (Array Nat) × Nat × Nat × Array Nat × τ) (σ : Sy) : Prop := x.1 = none ∧ Mh n σ₀ σ a b k x.2.1 x.2.2.1 x.2.2.2.1
noncomputable def Ck (n : Nat) (σ₀ : Sy) (a b : Array Nat) (k : Nat) {τ : Type} (x : Option (Array Nat) × Nat × Nat × Array Nat × τ) (σ : Sy) : Prop := Jh n σ₀ σ x.1 ∨ GoH n σ₀ a b k x σ
theorem Det.finH {τ : Type} {y : τ} {i j u w : Nat} {O : SEnv n c → AK} {Z I : Option (Array Nat) × Nat × Nat × Array Nat × τ → Sy → Prop} (hO : ∀ e, O e = o.map e.v) (lo : QI n o) (ha : QI n a) (hb : QI n b) (he : σ.a = σ₀.a ∧ σ.p = σ₀.p) (hq : ∀ x σ, Jh n σ₀ σ x.1 → Z x σ) :
  Det (fun e : SEnv n c => (Pure.pure (ForInStep.done (some ((a.map e.v).extract 0 i ++ (b.map e.v).extract 0 j ++ (O e).reverse), u, w, O e, y)) : SM _)) σ (XV csH) (ZE Z I) :=
 Det.pure (r := .done (some (a.extract 0 i ++ b.extract 0 j ++ o.reverse), u, w, o, y)) (hq _ _ ⟨_, rfl, ((ha.cut _ _).app (hb.cut _ _)).app lo.rev, he⟩) fun e => by rw [hO, dnH]; rfl
theorem Det.leafH {τ : Type} {y : τ} {i j l x x' u w : Nat} {d : Array Nat} {p : Prop} [Decidable p] {O : SEnv n c → AK} {Z I : Option (Array Nat) × Nat × Nat × Array Nat × τ → Sy → Prop} (hO : ∀ e, O e = o.map e.v) (lo : QI n o) (hd : QI n d) (hl : l < d.size) (ha : QI n a) (hb : QI n b) (he : σ.a = σ₀.a ∧ σ.p = σ₀.p) (hq : ∀ x σ, Jh n σ₀ σ x.1 → Z x σ) (h : ∀ o', QI n o' → x ≠ x' → Z (none, u, w, o', y) σ ∧ I (none, u, w, o', y) σ) :
  Det (fun e : SEnv n c => elem' (d.map e.v) l >>= fun z => if (x == x') = true then (Pure.pure (ForInStep.done (some ((a.map e.v).extract 0 i ++ (b.map e.v).extract 0 j ++ ((O e).push z).reverse), u, w, (O e).push z, y)) : SM _) else if p then Pure.pure (.done (none, u, w, (O e).push z, y)) else Pure.pure (.yield (none, u, w, (O e).push z, y))) σ (XV csH) (ZE Z I) := by
 have l' := lo.push (hd.get hl)
 have hP : ∀ e, (O e).push (e.v (d.getD l 0)) = (o.push (d.getD l 0)).map e.v := fun e => by rw [hO, Jy]
 exact Det.elem hl (Det.iteB (fun _ => Det.finH hP l' ha hb he hq) fun z => Det.ite (fun _ => Det.pure (r := .done (none, u, w, _, y)) (h _ l' z).1 fun e => by rw [hP]; rfl) fun _ => Det.pure (r := .yield (none, u, w, _, y)) (h _ l' z).2 fun e => by rw [hP]; rfl)
theorem Det.midH {τ : Type} {y : τ} {i j l l' m h x x' u w : Nat} {d q : Array Nat} {O : SEnv n c → AK} {Z I : Option (Array Nat) × Nat × Nat × Array Nat × τ → Sy → Prop} {k : SEnv n c → Keyed → Option Nat → SM (ForInStep (Option AK × Nat × Nat × AK × τ))} (hO : ∀ e, O e = o.map e.v) (lo : QI n o) (hd : QI n d) (hl : l < d.size) (ha : QI n a) (hb : QI n b) (he : σ.a = σ₀.a ∧ σ.p = σ₀.p) (hq : ∀ x σ, Jh n σ₀ σ x.1 → Z x σ) (hq' : QI n q) (hl' : l' < q.size) (hm : m ≤ d.size) (hh : x ≠ x' → h < m) (hk : ∀ r, x ≠ x' → r ≤ m → Det (fun e => k e (e.v (d.getD l 0)) (some r)) σ (XV csH) (ZE Z I)) :
  Det (fun e : SEnv n c => elem' (d.map e.v) l >>= fun z => if (x == x') = true then (Pure.pure (ForInStep.done (some ((a.map e.v).extract 0 i ++ (b.map e.v).extract 0 j ++ ((O e).push z).reverse), u, w, (O e).push z, y)) : SM _) else elem' (q.map e.v) l' >>= fun z' => Jg true z' (d.map e.v) 0 m h >>= k e z) σ (XV csH) (ZE Z I) :=
 Det.elem hl (Det.iteB (fun _ => Det.finH (fun e => by rw [hO, Jy]) (lo.push (hd.get hl)) ha hb he hq) fun z => Det.elG hq' hd hl' (fun _ => rfl) (by rwa [Nat.zero_add]) (hh z) fun r hr => hk r z hr)
theorem GV {i t k : Nat} {x : Option (Array Nat) × Nat × Nat × Array Nat × Nat} {y : Option (Array Nat) × Nat × Nat × Array Nat × Nat × Nat} (ha : QI n a) (hb : QI n b) (m : Mh n σ₀ σ a b (1 + t + k) y.2.1 y.2.2.1 y.2.2.2.1) : Det (fun e : SEnv n c => hi1.1.1 (a.map e.v) (b.map e.v) (csH e x) i (csH e y)) σ (XV csH) (ZE (Ck n σ₀ a b (1 + t + 1)) (GoH n σ₀ a b (1 + t + (k + 1)))) := by
 obtain ⟨lo, na1, naa, nb2, nbb, mk, me⟩ := m
 have nb1 := Nat.le_of_succ_le nb2
 have ja := Nat.lt_of_lt_of_le (Nat.sub_lt na1 Nat.one_pos) naa
 have jb := Nat.lt_of_lt_of_le (Nat.sub_lt nb1 Nat.one_pos) nbb
 refine Det.eq (fun e => hiE.2 _ _ _ _ _ _ _ _ _ _ _ _ _ _) (Det.eeLt ha hb jb ja fun w => ?_)
 refine Det.ite (fun _ => Det.leafH (fun _ => rfl) lo ha ja ha hb me (fun _ _ => .inl) fun o' l z => ?_) fun _ => Det.leafH (fun _ => rfl) lo hb jb hb ha me (fun _ _ => .inl) fun o' l z => ?_
 ·have z := Nat.pos_of_ne_zero z
  exact ⟨.inr ⟨rfl, l, z, Nat.le_of_lt ja, nb2, nbb, omh mk na1 (Nat.le_add_left _ _), me⟩, rfl, l, z, Nat.le_of_lt ja, nb2, nbb, omh mk na1 (Nat.le_refl _), me⟩
 ·have z := Nat.lt_of_le_of_ne (Nat.le_sub_of_add_le nb2) (Ne.symm z)
  exact ⟨.inr ⟨rfl, l, na1, naa, z, Nat.le_of_lt jb, Il mk nb1 (Nat.le_add_left _ _), me⟩, rfl, l, na1, naa, z, Nat.le_of_lt jb, Il mk nb1 (Nat.le_refl _), me⟩
theorem DG {k na nb ac bc g : Nat} (ha : QI n a) (hb : QI n b) (m : Mh n σ₀ σ a b k na nb o) : Det (fun e : SEnv n c => hi4 (a.map e.v) (b.map e.v) na nb (o.map e.v) ac bc g) σ (XV csH) (ZE (Ck n σ₀ a b k) (GoH n σ₀ a b k)) := by
 obtain ⟨lo, na1, naa, nb2, nbb, mk, me⟩ := m
 have nb1 : 1 ≤ nb - 1 := Nat.le_sub_of_add_le nb2
 have jb := Nat.lt_of_lt_of_le (Nat.sub_lt (Nat.le_of_succ_le nb2) Nat.one_pos) nbb
 have j2 := Nat.sub_lt nb1 Nat.one_pos
 refine Det.modify (σ' := { σ with g := g }) (fun _ => rfl) (Det.elG hb ha jb (fun _ => rfl) (by rwa [Nat.zero_add]) (Nat.sub_lt na1 Nat.one_pos) fun k1 h1 => ?_)
 have key : ∀ u w o' (y : Nat × Nat × Nat), QI n o' → u ≤ na → w ≤ nb - 1 → 2 ≤ w → u - 1 ≠ 0 → Ck n σ₀ a b k (none, u - 1, w, o', y) { σ with g := g } ∧ GoH n σ₀ a b k (none, u - 1, w, o', y) { σ with g := g } := fun u w o' y l h1 h3 h4 h5 => by
  have hu := Nat.le_trans (Nat.sub_le u 1) h1
  have : Mh n σ₀ { σ with g := g } a b k (u - 1) w o' := ⟨l, Nat.pos_of_ne_zero h5, Nat.le_trans hu naa, h4, Nat.le_trans h3 (Nat.le_of_lt jb), Nat.le_trans (Nat.add_le_add_right (Nat.add_le_add hu (Nat.le_trans h3 (Nat.sub_le _ _))) _) mk, me⟩
  exact ⟨.inr ⟨rfl, this⟩, rfl, this⟩
 have tail : ∀ {O : SEnv n c → AK} {o' : Array Nat}, (∀ e, O e = o'.map e.v) → QI n o' → ∀ r, (∀ e, (O e).push (e.v (b.getD (nb - 1) 0)) = (o'.push (b.getD (nb - 1) 0)).map e.v) ∧ QI n (o'.push (b.getD (nb - 1) 0)) ∧ (∀ e, (O e).push (e.v (b.getD (nb - 1) 0)) ++ ((b.map e.v).extract r (nb - 1)).reverse = (o'.push (b.getD (nb - 1) 0) ++ (b.extract r (nb - 1)).reverse).map e.v) ∧ QI n (o'.push (b.getD (nb - 1) 0) ++ (b.extract r (nb - 1)).reverse) := fun hO l r =>
  have hP := fun e => by rw [hO, Jy]
  ⟨hP, l.push (hb.get jb), fun e => by rw [hP, J1, V2, UR], (l.push (hb.get jb)).app (hb.cut _ _).rev⟩
 have hR : ∀ e : SEnv n c, o.map e.v ++ ((a.map e.v).extract k1 na).reverse = (o ++ (a.extract k1 na).reverse).map e.v := fun e => by rw [J1, V2, UR]
 have lR := lo.app (ha.cut k1 na).rev
 refine Det.ite (fun _ => Det.iteB (fun _ => Det.finH hR lR ha hb me fun _ _ => .inl) fun z1 => ?_) fun _ => ?_
 ·have jk := Nat.lt_of_lt_of_le (Nat.sub_lt (Nat.pos_of_ne_zero z1) Nat.one_pos) (Nat.le_trans h1 naa)
  refine Det.midH hR lR hb jb hb ha me (fun _ _ => .inl) ha jk (Nat.le_of_lt jb) (fun _ => j2) fun r z2 hr => ?_
  obtain ⟨hP, lP, hS, lS⟩ := tail hR lR r
  exact Det.ite (fun _ => Det.iteB (fun _ => Det.finH hS lS hb ha me fun _ _ => .inl) fun z3 => Det.iteB (fun _ => Det.finH hS lS ha hb me fun _ _ => .inl) fun z4 => Det.leafH hS lS ha jk ha hb me (fun _ _ => .inl) fun o' l z => key _ _ _ _ l h1 hr (Nat.lt_of_le_of_ne (Nat.pos_of_ne_zero z4) (Ne.symm z3)) z) fun _ => Det.leafH hP lP ha jk ha hb me (fun _ _ => .inl) fun o' l z => key _ _ _ _ l h1 (Nat.le_refl _) (Nat.lt_of_le_of_ne nb1 (Ne.symm z2)) z
 ·have ja := Nat.lt_of_lt_of_le (Nat.sub_lt na1 Nat.one_pos) naa
  refine Det.midH (fun _ => rfl) lo hb jb hb ha me (fun _ _ => .inl) ha ja (Nat.le_of_lt jb) (fun _ => j2) fun r z2 hr => ?_
  obtain ⟨hP, lP, hS, lS⟩ := tail (fun _ => rfl) lo r
  exact Det.ite (fun _ => Det.iteB (fun _ => Det.finH hS lS hb ha me fun _ _ => .inl) fun z3 => Det.iteB (fun _ => Det.finH hS lS ha hb me fun _ _ => .inl) fun z4 => Det.leafH hS lS ha ja ha hb me (fun _ _ => .inl) fun o' l z => key _ _ _ _ l (Nat.le_refl _) hr (Nat.lt_of_le_of_ne (Nat.pos_of_ne_zero z4) (Ne.symm z3)) z) fun _ => Det.leafH hP lP ha ja ha hb me (fun _ _ => .inl) fun o' l z => key _ _ _ _ l (Nat.le_refl _) (Nat.le_refl _) (Nat.lt_of_le_of_ne nb1 (Ne.symm z2)) z
theorem Gw {t : Nat} {x : Option (Array Nat) × Nat × Nat × Array Nat × Nat} {y : Nat × Nat × Array Nat × Nat × Nat} (ha : QI n a) (hb : QI n b) (m : Mh n σ₀ σ a b (1 + t) y.1 y.2.1 y.2.2.1) : Det (fun e : SEnv n c => hi1.1.2 (a.map e.v) (b.map e.v) (csH e x) (csH e (none, y))) σ (XV csH) (ZE (fun x σ => Jh n σ₀ σ x.1) (GoH n σ₀ a b (1 + t))) := by
 refine Det.eq (fun e => hi2.2 _ _ _ _) (Det.rule (Det.forZ (szz a b) csH (x := (none, y.1, y.2.1, y.2.2.1, x.2.2.2.2 + 1, y.2.2.2.1, y.2.2.2.2)) (fun _ => GoH n σ₀ a b (1 + t)) (P := Ck n σ₀ a b (1 + t)) (fun i z σ q => ?_) (fun _ _ => .inr) ⟨rfl, m⟩ ?k2))
 ·exact Det.eq (fun e => HZ _ _ _ _ _ _ _ _ _ _) (Det.ite (fun _ => DG ha hb q.2) fun _ => DG ha hb q.2)
 case k2 =>
  rintro ⟨x0, z⟩ σ (⟨r, rfl, q⟩ | ⟨rfl, m⟩)
  ·exact Det.pure (r := .done (some r, z.1, z.2.1, z.2.2.1, z.2.2.2.1)) ⟨r, rfl, q⟩
  ·exact Det.modify (σ' := { σ with g := z.2.2.2.1 + 1 }) (fun _ => rfl) (Det.pure (r := .yield (none, z.1, z.2.1, z.2.2.1, z.2.2.2.1 + 1)) ⟨rfl, m.low, m.na1, m.naa, m.nb2, m.nbb, m.k, m.e⟩)
theorem GZ {i t : Nat} {x : Option (Array Nat) × Nat × Nat × Array Nat × Nat} (ha : QI n a) (hb : QI n b) (m : Mh n σ₀ σ a b (1 + t) x.2.1 x.2.2.1 x.2.2.2.1) : Det (fun e : SEnv n c => hi0.1.1 (a.map e.v) (b.map e.v) i (csH e x)) σ (XV csH) (ZE (fun x σ => Jh n σ₀ σ x.1) (GoH n σ₀ a b (1 + (t + 1)))) := by
 refine Det.eq (fun e => hi1.2 _ _ _ _) (Det.forZ (szz a b) csH (x := (none, x.2.1, x.2.2.1, x.2.2.2.1, 0, 0)) (fun k => GoH n σ₀ a b (1 + t + k)) (P := Ck n σ₀ a b (1 + t + 1)) (fun i y σ q => GV ha hb q.2) (fun y σ q => .inr ⟨q.1, q.2.low, q.2.na1, q.2.naa, q.2.nb2, q.2.nbb, Nat.le_trans (Nat.add_le_add_left (Nat.add_le_add_left (Nat.le_trans (Nat.le_trans q.2.na1 q.2.naa) (Nat.le_add_right _ _)) _) _) q.2.k, q.2.e⟩) ⟨rfl, m⟩ ?k1)
 rintro ⟨x0, y⟩ σ (⟨r, rfl, q⟩ | ⟨rfl, m⟩)
 ·exact Det.pure (r := .done (some r, y.1, y.2.1, y.2.2.1, x.2.2.2.2)) ⟨r, rfl, q⟩
 ·exact Gw ha hb m
theorem BE {a b : Array Nat} (ha : QI n a) (hb : QI n b) (sa : 1 ≤ a.size) (sb : 1 ≤ b.size) : Det (fun e : SEnv n c => CC (a.map e.v) (b.map e.v)) σ (fun e r => r.map e.v) (fun r σ' => QI n r ∧ σ'.a = σ.a ∧ σ'.p = σ.p) := by
 have ja := Nat.sub_lt sa Nat.one_pos
 have l0 := QI.one (ha.get ja)
 refine Det.eq (fun e => (hi0.2 _ _).trans (by rw [Array.size_map, Array.size_map])) ?_
 refine (Det.rule (Det.elem ja (Det.iteB (fun _ => Det.pure (r := a.extract 0 (a.size - 1) ++ b.extract 0 b.size ++ #[a.getD (a.size - 1) 0].reverse) ⟨((ha.cut _ _).app (hb.cut _ _)).app l0.rev, rfl, rfl⟩ fun e => by rw [UM, dnH]) fun z1 => Det.iteB (fun _ => Det.pure (r := b.extract 0 b.size ++ a.extract 0 (a.size - 1) ++ #[a.getD (a.size - 1) 0].reverse) ⟨((hb.cut _ _).app (ha.cut _ _)).app l0.rev, rfl, rfl⟩ fun e => by rw [UM, dnH]) fun z2 => Det.get ?_)))
 refine Det.eq (fun e => by rw [UM]) ?_
 refine Det.forZ (fun _ => rfl) csH (x := (none, a.size - 1, b.size, #[a.getD (a.size - 1) 0], σ.g)) (fun t => GoH n σ a b (1 + t)) (P := fun x σ' => Jh n σ σ' x.1) (fun i x σ q => GZ ha hb q.2) (fun x σ q => ?_) ⟨rfl, l0, Nat.pos_of_ne_zero z1, Nat.le_of_lt ja, Nat.lt_of_le_of_ne sb (Ne.symm z2), Nat.le_refl _, Nat.le_of_eq ((Nat.add_right_comm _ _ _).trans (by rw [Nat.sub_add_cancel sa])), rfl, rfl⟩ ?k1
 ·exact absurd (Nat.le_trans (Nat.le_add_left _ _) q.2.k) (Nat.not_le_of_gt (Nat.lt_add_of_pos_left Nat.one_pos))
 case k1 =>
  rintro ⟨x0, y⟩ σ' ⟨r, rfl, q⟩
  exact Det.pure (r := r) q
end
section
variable {n : Nat} {c : Nat → Nat → Bool} {α R : Type} {σ σ' : Sy} {cr : SEnv n c → R → α} {Q : R → Sy → Prop}
theorem Det.set {f : SEnv n c → SortSt} {k : SEnv n c → PUnit → StateT SortSt Sem α} (hf : ∀ e, f e = e.st σ') (h : Det (fun e => k e ⟨⟩) σ' cr Q) : Det (fun e => (MonadStateOf.set (f e) : StateT SortSt Sem PUnit) >>= k e) σ cr Q := by
 obtain ⟨r, σ2, h1, h2⟩ := h
 refine ⟨r, σ2, h1, fun e => wpS_bind ?_⟩
 unfold wpS
 rw [StateT.run_set]
 exact wpAny_pure ⟨rfl, by rw [hf]; exact h2 e⟩
theorem OF (f : Nat → Keyed) (d : Nat) : ∀ (l : List (Nat × Nat)) (a : Array Nat), (l.map fun p => (f p.1, p.2)).foldl (fun a p => a.setIfInBounds (d + p.2) p.1) (a.map f) = (l.foldl (fun a p => a.setIfInBounds (d + p.2) p.1) a).map f
 | [], _ => rfl
 | p :: l, a => by
  rw [List.map_cons, List.foldl_cons, List.foldl_cons, ← OF f d l]
  congr 1
  simp
theorem BP (d : Nat) : ∀ (l : List (Nat × Nat)) (a : Array Nat), (∀ p ∈ l, p.1 < n) → QI n a → QI n (l.foldl (fun a p => a.setIfInBounds (d + p.2) p.1) a)
 | [], _, _, h => h
 | p :: l, a, hl, h => BP d l _ (fun q hq => hl q (.tail _ hq)) (h.setB _ (hl p (.head _)))
theorem Vr (d : Nat) : ∀ (l : List (Nat × Nat)) (a : Array Nat), (l.foldl (fun a p => a.setIfInBounds (d + p.2) p.1) a).size = a.size
 | [], _ => rfl
 | p :: l, a => by rw [List.foldl_cons, Vr d l, Array.size_setIfInBounds]
theorem DP (f : Nat → Keyed) (m : Array Nat) : (m.map f).toList.zipIdx = m.toList.zipIdx.map fun p => (f p.1, p.2) := by
 rw [Array.toList_map, List.zipIdx_map]; rfl
theorem GT (e : SEnv n c) (σ : Sy) : pendingOf (e.st σ) = σ.p := rfl
theorem Iw (e : SEnv n c) (σ : Sy) : arrOf (e.st σ) = σ.a.map e.v := rfl
structure Keep (n : Nat) (a : Array Nat) : Prop where
 size : a.size = n
 low : QI n a
theorem Cl {i sa na pw sb nb pb : Nat} (hk : Keep n σ.a) (h1 : σ.p[i]? = some (sa, na, pw)) (h2 : σ.p[i + 1]? = some (sb, nb, pb)) (e1 : sb = sa + na) (e2 : sb + nb ≤ n) (n1 : 1 ≤ na) (n2 : 1 ≤ nb) :
  Det (fun _ : SEnv n c => mergeAt' i) σ (fun _ r => r) (fun r σ' => r = true ∧ Keep n σ'.a ∧ σ'.p = (σ.p.setIfInBounds i (sa, na + nb, pw)).eraseIdxIfInBounds (i + 1)) := by
 refine Det.get ?_
 simp only [GT, Iw, h1, h2, J1, beq_iff_eq]
 have sz := hk.size
 have la := hk.low
 have x1 := la.cut sa sb
 have hsn : sb + nb ≤ σ.a.size := by rw [sz]; exact e2
 have hsb : sb < σ.a.size := Nat.lt_of_lt_of_le (Nat.lt_add_of_pos_right n2) hsn
 refine Det.set (σ' := { σ with p := (σ.p.setIfInBounds i (sa, na + nb, pw)).eraseIdxIfInBounds (i + 1) }) (fun _ => rfl) ?_
 refine Det.elem hsb (Det.bind (Det.mono (Ws (la.get hsb) la (Nat.le_trans (Nat.le_of_eq e1.symm) (Nat.le_of_lt hsb)) n1) ?_))
 rintro _ σ2 ⟨rfl, k, rfl, hk1⟩
 dsimp only
 refine Det.ite (fun _ => Det.pure (r := true) ⟨rfl, hk, rfl⟩) fun h3 => ?_
 have hs : sa + k + (na - k) - 1 < σ.a.size := by rw [Nat.add_assoc, Nat.add_sub_of_le hk1, ← e1]; exact Nat.lt_of_le_of_lt (Nat.sub_le _ _) hsb
 refine Det.elem hs (Det.bind (Det.mono (Ws (la.get hs) la hsn (Nat.sub_lt n2 Nat.one_pos)) ?_))
 rintro _ σ2 ⟨rfl, nb', rfl, hk2⟩
 dsimp only
 refine Det.ite (fun _ => Det.pure (r := true) ⟨rfl, hk, rfl⟩) fun h4 => ?_
 have s1 : 1 ≤ (σ.a.extract (sa + k) sb).size := by
  rw [Array.size_extract, Nat.min_eq_left (Nat.le_of_lt hsb), e1]; exact Nat.sub_pos_of_lt (Nat.add_lt_add_left (Nat.lt_of_sub_ne_zero h3) _)
 have s2 : 1 ≤ (σ.a.extract sb (sb + nb')).size := by
  rw [Array.size_extract, Nat.min_eq_left (Nat.le_trans (Nat.add_le_add_left hk2 _) hsn), Nat.add_sub_cancel_left]; exact Nat.pos_of_ne_zero h4
 have fin : ∀ (r : Array Nat) (σ3 : Sy), QI n r → σ3.a = σ.a → σ3.p = (σ.p.setIfInBounds i (sa, na + nb, pw)).eraseIdxIfInBounds (i + 1) → Keep n (r.toList.zipIdx.foldl (fun a p => a.setIfInBounds (sa + k + p.2) p.1) σ3.a) := fun r σ3 hr ha hp => by
  rw [ha]
  refine ⟨by rw [Vr]; exact sz, BP _ _ _ (fun p hp => ?_) la⟩
  exact hr _ (Array.mem_toList_iff.mp (List.fst_mem_of_mem_zipIdx hp))
 refine Det.ite (fun _ => ?_) fun _ => ?_
 ·refine Det.bind (Det.mono (BY (la.cut _ _) (la.cut _ _) s1 s2) ?_)
  rintro r σ3 ⟨hr, ha, hp⟩
  refine Det.modify (σ' := { σ3 with a := r.toList.zipIdx.foldl (fun a p => a.setIfInBounds (sa + k + p.2) p.1) σ3.a }) (fun e => ?_) (Det.get (Det.pure (r := true) ⟨rfl, fin r σ3 hr ha hp, hp⟩))
  show SortSt.mk' e.κ ((r.map e.v).toList.zipIdx.foldl (fun a p => a.setIfInBounds (sa + k + p.2) p.1) (σ3.a.map e.v)) σ3.p σ3.g none = _
  rw [DP, OF]; rfl
 ·refine Det.bind (Det.mono (BE (la.cut _ _) (la.cut _ _) s1 s2) ?_)
  rintro r σ3 ⟨hr, ha, hp⟩
  refine Det.modify (σ' := { σ3 with a := r.toList.zipIdx.foldl (fun a p => a.setIfInBounds (sa + k + p.2) p.1) σ3.a }) (fun e => ?_) (Det.get (Det.pure (r := true) ⟨rfl, fin r σ3 hr ha hp, hp⟩))
  show SortSt.mk' e.κ ((r.map e.v).toList.zipIdx.foldl (fun a p => a.setIfInBounds (sa + k + p.2) p.1) (σ3.a.map e.v)) σ3.p σ3.g none = _
  rw [DP, OF]; rfl
end
section
variable {n : Nat} {c : Nat → Nat → Bool} {α R : Type} {σ σ' : Sy} {cr : SEnv n c → R → α} {Q : R → Sy → Prop}
theorem E6 (f : Nat → Keyed) (xs : Array Nat) (i j : Nat) : (xs.map f).swapIfInBounds i j = (xs.swapIfInBounds i j).map f := by
 by_cases hi : i < xs.size
 ·by_cases hj : j < xs.size
  ·apply Array.ext_getElem?
   intro k
   rw [getElem?_swapIB (by rw [Array.size_map]; exact hi) (by rw [Array.size_map]; exact hj)]
   simp only [Array.getElem?_map]
   rw [getElem?_swapIB hi hj]
   by_cases h1 : j = k <;> by_cases h2 : i = k <;> simp [h1, h2]
  ·rw [Array.swapIfInBounds_def, Array.swapIfInBounds_def]
   simp [hi, hj]
 ·rw [Array.swapIfInBounds_def, Array.swapIfInBounds_def]
  simp [hi]
theorem W5 (f : Nat → Keyed) (u w : Nat → Nat) : ∀ (l : List Nat) (xs : Array Nat), l.foldl (fun a k => a.swapIfInBounds (u k) (w k)) (xs.map f) = (l.foldl (fun a k => a.swapIfInBounds (u k) (w k)) xs).map f
 | [], _ => rfl
 | k :: l, xs => by
  rw [List.foldl_cons, List.foldl_cons, E6, W5 f u w l]
theorem Keep.perm {a b : Array Nat} (h : Keep n a) (p : b.Perm a) : Keep n b := ⟨p.size_eq.trans h.size, fun x hx => h.low x (p.mem_iff.mp hx)⟩
theorem Det.revS {i j : Nat} {k : SEnv n c → Unit → StateT SortSt Sem α} (h : Det (fun e => k e ()) { σ with a := mirror σ.a i j ((j - i) / 2) } cr Q) : Det (fun e => reverseSlice' i j >>= k e) σ cr Q := by
 rw [reverseSlice'_eq]
 refine Det.modify (σ' := { σ with a := mirror σ.a i j ((j - i) / 2) }) (fun e => ?_) h
 show SortSt.mk' e.κ (mirror (σ.a.map e.v) i j ((j - i) / 2)) σ.p σ.g none = SortSt.mk' e.κ ((mirror σ.a i j ((j - i) / 2)).map e.v) σ.p σ.g none
 rw [show mirror (σ.a.map e.v) i j ((j - i) / 2) = (mirror σ.a i j ((j - i) / 2)).map e.v from W5 e.v _ _ _ σ.a]
theorem Det.moveD {i j : Nat} {k : SEnv n c → Unit → StateT SortSt Sem α} (h : Det (fun e => k e ()) { σ with a := bubble σ.a i (i - j) } cr Q) : Det (fun e => moveDown' i j >>= k e) σ cr Q := by
 rw [moveDown'_eq]
 refine Det.modify (σ' := { σ with a := bubble σ.a i (i - j) }) (fun e => ?_) h
 show SortSt.mk' e.κ (bubble (σ.a.map e.v) i (i - j)) σ.p σ.g none = SortSt.mk' e.κ ((bubble σ.a i (i - j)).map e.v) σ.p σ.g none
 rw [show bubble (σ.a.map e.v) i (i - j) = (bubble σ.a i (i - j)).map e.v from W5 e.v _ _ _ σ.a]
theorem Det.ltAt {i j : Nat} {k : SEnv n c → Option Bool → StateT SortSt Sem α} (hk : Keep n σ.a) (hi : i < n) (hj : j < n) (h : ∀ b, Det (fun e => k e (some b)) σ cr Q) : Det (fun e => ltAt' i j >>= k e) σ cr Q := by
 refine Det.bind (cr' := fun _ (r : Option Bool) => r) ?_
 have si := hk.size
 refine Det.get (Det.elem (by (rw [si]; exact hi)) (Det.elem (by (rw [si]; exact hj)) (Det.ltE (hk.low.get (by (rw [si]; exact hi))) (hk.low.get (by (rw [si]; exact hj))) (h _))))
structure Kq (n : Nat) (σ₀ σ : Sy) : Prop where
 k : Keep n σ.a
 p : σ.p = σ₀.p
theorem Kq.rev {σ₀ : Sy} (h : Kq n σ₀ σ) (i j d : Nat) : Kq n σ₀ { σ with a := mirror σ.a i j d } := ⟨h.k.perm (mirror_perm _ _ _ _), h.p⟩
theorem Det.iteS {σ₀ : Sy} {p : Prop} [Decidable p] {T U : SEnv n c → StateT SortSt Sem α} (h : Kq n σ₀ σ) (key : ∀ σ', Kq n σ₀ σ' → Det U σ' cr Q) (hT : p → (∀ σ', Kq n σ₀ σ' → Det U σ' cr Q) → Det T σ cr Q) : Det (fun e => if p then T e else U e) σ cr Q := by
 by_cases q : p
 ·exact Det.ifT (fun _ => q) (hT q key)
 ·exact Det.ifF (fun _ => q) (key _ h)
theorem Be {lo nrem : Nat} (hk : Keep n σ.a) (hl : lo + nrem ≤ n) (h1 : 1 ≤ nrem) : Det (fun _ : SEnv n c => countRun' lo nrem) σ (fun _ r => r) (fun r σ' => Kq n σ σ' ∧ ∃ m, r = some m ∧ 1 ≤ m ∧ m ≤ nrem) := by
 have hL : ∀ {i}, i < nrem → lo + i < n := fun h => Nat.lt_of_lt_of_le (Nat.add_lt_add_left h _) hl
 have hL1 : ∀ {i}, i < nrem → lo + i - 1 < n := fun h => Nat.lt_of_le_of_lt (Nat.sub_le _ _) (hL h)
 refine Det.bind (Det.mono (Det.forRange (S := Option (Option Nat) × Nat) (x := (none, 1)) (fun _ x => x) (fun i x σ' => x.1 = none ∧ x.2 = i ∧ Kq n σ σ') (P := fun x σ' => x.1 = none ∧ 1 ≤ x.2 ∧ x.2 ≤ nrem ∧ Kq n σ σ') ?s1 ?f1 ⟨rfl, rfl, hk, rfl⟩) ?p1)
 case f1 =>
  rintro ⟨x0, m⟩ σ' ⟨rfl, rfl, q⟩
  exact ⟨rfl, Nat.le_max_left _ _, Nat.max_le.mpr ⟨h1, Nat.le_refl _⟩, q⟩
 case s1 =>
  rintro i ⟨x0, m⟩ σ' hi hi2 ⟨rfl, rfl, q⟩
  dsimp only at hi hi2 ⊢
  refine Det.ltAt q.k (hL hi2) (hL1 hi2) fun b => ?_
  dsimp only
  exact Det.ite (fun _ => Det.pure (r := .done (none, m)) ⟨rfl, hi, by dsimp only; exact Nat.le_of_lt hi2, q⟩) fun _ => Det.pure (r := .yield (none, m + 1)) ⟨rfl, rfl, q⟩
 case p1 =>
  rintro ⟨x0, m⟩ σ' ⟨rfl, hm1, hm2, q⟩
  dsimp only at hm1 hm2 ⊢
  simp only [beq_iff_eq]
  refine Det.ite (fun h => Det.pure (r := some m) ⟨q, m, rfl, hm1, hm2⟩) fun h2 => ?_
  refine Det.iteS q ?k2 ?t2
  case t2 =>
   intro h3 K
   have hm3 := Nat.lt_of_le_of_ne hm2 h2
   refine Det.ltAt q.k (hL (Nat.zero_lt_of_lt hm3)) (hL1 hm3) fun b => ?_
   dsimp only
   exact Det.ite (fun _ => Det.pure (r := some m) ⟨q, m, rfl, hm1, hm2⟩) fun _ => Det.revS (K _ (q.rev _ _ _))
  case k2 =>
   intro σ' q
   refine Det.rule ?_
   refine Det.bind (Det.mono (Det.forRange (S := Option (Option Nat) × Nat × Nat) (x := (none, m + 1, 0)) (fun _ x => x) (fun i x σ' => x.1 = none ∧ x.2.1 = i ∧ Kq n σ σ') (P := fun x σ' => x.1 = none ∧ 1 ≤ x.2.1 ∧ x.2.1 ≤ nrem ∧ Kq n σ σ') ?s3 ?f3 ⟨rfl, rfl, q⟩) ?p3)
   case f3 =>
    rintro ⟨x0, x1, x2⟩ σ' ⟨rfl, rfl, q⟩
    exact ⟨rfl, Nat.le_trans (Nat.le_add_left _ _) (Nat.le_max_left _ _), Nat.max_le.mpr ⟨Nat.lt_of_le_of_ne hm2 h2, Nat.le_refl _⟩, q⟩
   case s3 =>
    rintro i ⟨x0, x1, x2⟩ σ' hi hi2 ⟨rfl, rfl, q⟩
    dsimp only at hi hi2 ⊢
    refine Det.ltAt q.k (hL hi2) (hL1 hi2) fun b => ?_
    dsimp only
    refine Det.ite (fun _ => ?_) fun _ => ?_
    ·exact Det.iteS q (fun σ' q => Det.pure (r := .yield (none, x1 + 1, 0)) ⟨rfl, rfl, q⟩) fun _ K => Det.revS (K _ (q.rev _ _ _))
    ·refine Det.ltAt q.k (hL1 hi2) (hL hi2) fun b => ?_
     dsimp only
     exact Det.ite (fun _ => Det.pure (r := .done (none, x1, x2)) ⟨rfl, by dsimp only; exact Nat.zero_lt_of_lt hi, by dsimp only; exact Nat.le_of_lt hi2, q⟩) fun _ => Det.pure (r := .yield (none, x1 + 1, x2 + 1)) ⟨rfl, rfl, q⟩
   case p3 =>
    rintro ⟨x0, x1, x2⟩ σ' ⟨rfl, hx1, hx2, q⟩
    dsimp only at hx1 hx2 ⊢
    refine Det.iteS q ?k4 fun _ K => Det.revS (K _ (q.rev _ _ _))
    case k4 =>
     intro σ' q
     refine Det.revS ?_
     refine Det.bind (Det.mono (Det.forRange (S := Option (Option Nat) × Nat) (x := (none, x1)) (fun _ x => x) (fun i x σ' => x.1 = none ∧ x.2 = i ∧ Kq n σ σ') (P := fun x σ' => x.1 = none ∧ 1 ≤ x.2 ∧ x.2 ≤ nrem ∧ Kq n σ σ') ?s5 ?f5 ⟨rfl, rfl, q.rev _ _ _⟩) ?p5)
     case f5 =>
      rintro ⟨x0, m⟩ σ' ⟨rfl, rfl, q⟩
      exact ⟨rfl, Nat.le_trans hx1 (Nat.le_max_left _ _), Nat.max_le.mpr ⟨hx2, Nat.le_refl _⟩, q⟩
     case s5 =>
      rintro i ⟨x0, m⟩ σ' hi hi2 ⟨rfl, rfl, q⟩
      dsimp only at hi hi2 ⊢
      refine Det.ltAt q.k (hL hi2) (hL1 hi2) fun b => ?_
      dsimp only
      exact Det.ite (fun _ => Det.pure (r := .done (none, m)) ⟨rfl, by dsimp only; exact Nat.le_trans hx1 hi, by dsimp only; exact Nat.le_of_lt hi2, q⟩) fun _ => Det.pure (r := .yield (none, m + 1)) ⟨rfl, rfl, q⟩
     case p5 =>
      rintro ⟨x0, m⟩ σ' ⟨rfl, hm1, hm2, q⟩
      exact Det.pure (r := some m) ⟨q, m, rfl, hm1, hm2⟩
theorem OA {lo m ok : Nat} (hk : Keep n σ.a) (hl : lo + m ≤ n) : Det (fun _ : SEnv n c => binarySort' lo m ok) σ (fun _ r => r) (fun r σ' => Kq n σ σ' ∧ r = true) := by
 refine Det.bind (Det.mono (Det.forRange (S := Option Bool × Unit) (x := (none, ())) (fun _ x => x) (fun _ x σ' => x.1 = none ∧ Kq n σ σ') (P := fun x σ' => x.1 = none ∧ Kq n σ σ') ?s1 (fun _ _ q => q) ⟨rfl, hk, rfl⟩) ?p1)
 case p1 =>
  rintro ⟨x0, x1⟩ σ' ⟨rfl, q⟩
  exact Det.pure (r := true) ⟨q, rfl⟩
 case s1 =>
  rintro k ⟨x0, x1⟩ σ' hi hk2 ⟨rfl, q⟩
  dsimp only
  refine Det.bind (Det.mono (Det.forRange (S := Option Bool × Nat × Nat) (x := (none, 0, k)) (fun _ x => x) (fun _ x σ' => x.1 = none ∧ x.2.2 ≤ k ∧ Kq n σ σ') (P := fun x σ' => x.1 = none ∧ Kq n σ σ') ?s2 (fun _ _ q => ⟨q.1, q.2.2⟩) ⟨rfl, Nat.le_refl _, q⟩) ?p2)
  case p2 =>
   rintro ⟨x0, l, r⟩ σ' ⟨rfl, q⟩
   exact Det.moveD (Det.pure (r := .yield (none, ())) ⟨rfl, q.k.perm (bubble_perm _ _ _), q.p⟩)
  case s2 =>
   rintro i ⟨x0, l, r⟩ σ' _ _ ⟨rfl, hr, q⟩
   dsimp only at hr ⊢
   refine Det.ite (fun _ => Det.pure (r := .done (none, l, r)) ⟨rfl, q⟩) fun hlr => ?_
   have hlr := Nat.lt_of_not_ge hlr
   have hm : (l + r) / 2 < r := Nat.div_lt_of_lt_mul (by rw [Nat.two_mul]; exact Nat.add_lt_add_right hlr _)
   have hn : ∀ {i}, i ≤ k → lo + i < n := fun h => Nat.lt_of_lt_of_le (Nat.add_lt_add_left (Nat.lt_of_le_of_lt h hk2) _) hl
   refine Det.ltAt q.k (hn (Nat.le_refl _)) (hn (Nat.le_trans (Nat.le_of_lt hm) hr)) fun b => ?_
   dsimp only
   exact Det.ite (fun _ => Det.pure (r := .yield (none, l, (l + r) / 2)) ⟨rfl, Nat.le_trans (Nat.le_of_lt hm) hr, q⟩) fun _ => Det.pure (r := .yield (none, (l + r) / 2 + 1, r)) ⟨rfl, hr, q⟩
end
noncomputable def Zv : Nat → List (Nat × Nat × Nat) → Nat → Prop
 | s, [], t => s = t
 | s, x :: r, t => x.1 = s ∧ 1 ≤ x.2.1 ∧ Zv (s + x.2.1) r t
theorem Zv.le : ∀ {l : List (Nat × Nat × Nat)} {s t : Nat}, Zv s l t → s ≤ t
 | [], _, _, h => Nat.le_of_eq h
 | x :: r, s, t, h => by have := Zv.le h.2.2; exact Nat.le_of_add_right_le this
theorem Zv.push : ∀ {l : List (Nat × Nat × Nat)} {s t m q : Nat}, Zv s l t → 1 ≤ m → Zv s (l ++ [(t, m, q)]) (t + m)
 | [], s, t, m, q, h, hm => by cases h; exact ⟨rfl, hm, rfl⟩
 | x :: r, s, t, m, q, h, hm => ⟨h.1, h.2.1, Zv.push h.2.2 hm⟩
theorem Zv.modify (w : Nat) : ∀ {l : List (Nat × Nat × Nat)} {s t : Nat} (i : Nat), Zv s l t → Zv s (l.modify i fun x => (x.1, x.2.1, w)) t
 | [], s, t, i, h => by cases i <;> exact h
 | x :: r, s, t, 0, h => ⟨h.1, h.2.1, h.2.2⟩
 | x :: r, s, t, i + 1, h => ⟨h.1, h.2.1, Zv.modify w i h.2.2⟩
theorem Zv.adj : ∀ {l : List (Nat × Nat × Nat)} {s t i : Nat} {x y : Nat × Nat × Nat}, Zv s l t → l[i]? = some x → l[i + 1]? = some y → y.1 = x.1 + x.2.1 ∧ y.1 + y.2.1 ≤ t ∧ 1 ≤ x.2.1 ∧ 1 ≤ y.2.1 ∧ Zv s ((l.set i (x.1, x.2.1 + y.2.1, x.2.2)).eraseIdx (i + 1)) t
 | [], _, _, _, _, _, _, h1, _ => by cases h1
 | [_], _, _, 0, _, _, _, _, h2 => by cases h2
 | x :: y :: r, s, t, 0, _, _, h, h1, h2 => by
  cases h1; cases h2
  have e1 := h.1
  have e2 := h.2.2.1
  have le := h.2.2.2.2.le
  refine ⟨by (rw [e1]; exact e2), by (rw [e2]; exact le), h.2.1, h.2.2.2.1, h.1, by have := h.2.1; show 1 ≤ x.2.1 + y.2.1; exact Nat.le_trans this (Nat.le_add_right _ _), ?_⟩
  show Zv (s + (x.2.1 + y.2.1)) r t
  rw [← Nat.add_assoc]; exact h.2.2.2.2
 | z :: r, s, t, i + 1, x, y, h, h1, h2 => by
  obtain ⟨a1, a2, a3, a4, a5⟩ := Zv.adj (i := i) h.2.2 h1 h2
  exact ⟨a1, a2, a3, a4, h.1, h.2.1, a5⟩
section
variable {n : Nat} {c : Nat → Nat → Bool} {σ : Sy}
structure Sr (n lo : Nat) (σ : Sy) : Prop where
 k : Keep n σ.a
 r : Zv 0 σ.p.toList lo
theorem Sr.merge {lo i : Nat} (h : Sr n lo σ) (hl : lo ≤ n) (hi : i + 1 < σ.p.size) : Det (fun _ : SEnv n c => mergeAt' i) σ (fun _ r => r) (fun r σ' => r = true ∧ Sr n lo σ') := by
 have e1 : σ.p[i]? = some σ.p[i] := Array.getElem?_eq_getElem (Nat.lt_of_succ_lt hi)
 have e2 : σ.p[i + 1]? = some σ.p[i + 1] := Array.getElem?_eq_getElem hi
 generalize σ.p[i] = x at e1
 generalize σ.p[i + 1] = y at e2
 obtain ⟨a1, a2, a3, a4, a5⟩ := Zv.adj (i := i) h.r (by rw [Array.getElem?_toList]; exact e1) (by rw [Array.getElem?_toList]; exact e2)
 refine Det.mono (Cl h.k e1 e2 a1 (Nat.le_trans a2 hl) a3 a4) ?_
 rintro r σ' ⟨q1, q2, q3⟩
 refine ⟨q1, q2, ?_⟩
 rw [q3, Array.toList_eraseIdxIfInBounds, Array.toList_setIfInBounds]
 exact a5
theorem Sr.mrg {α R : Type} {cr : SEnv n c → R → α} {Q : R → Sy → Prop} {lo : Nat} (h : Sr n lo σ) (hl : lo ≤ n) {b : SEnv n c → Prop} [∀ e, Decidable (b e)] {x y : Nat} (hb : ∀ e e', b e → b e') (hx : x + 1 < σ.p.size) (hy : y + 1 < σ.p.size) {k : SEnv n c → Bool → StateT SortSt Sem α} (K : ∀ σ', Sr n lo σ' → Det (fun e => k e true) σ' cr Q) : Det (fun e => mergeAt' (if b e then x else y) >>= k e) σ cr Q := by
 have key : ∀ z, z + 1 < σ.p.size → Det (fun e => mergeAt' z >>= k e) σ cr Q := fun z hz => by
  refine Det.bind (cr' := fun _ (r : Bool) => r) (Det.mono (h.merge hl hz) ?_)
  rintro _ σ2 ⟨rfl, q⟩
  exact K σ2 q
 by_cases q : ∃ e, b e
 ·obtain ⟨e0, q⟩ := q
  rw [show (fun e => mergeAt' (if b e then x else y) >>= k e) = fun e => mergeAt' x >>= k e from funext fun e => by rw [if_pos (hb e0 e q)]]
  exact key x hx
 ·rw [show (fun e => mergeAt' (if b e then x else y) >>= k e) = fun e => mergeAt' y >>= k e from funext fun e => by rw [if_neg fun q' => q ⟨e, q'⟩]]
  exact key y hy
theorem Det.iteM {α R ι : Type} {cr : SEnv n c → R → α} {Q : R → Sy → Prop} {p : Prop} [Decidable p] {T : SEnv n c → StateT SortSt Sem α} {F : ι → SEnv n c → StateT SortSt Sem α} (y : ι) (Inv : ι → Sy → Prop) (key : ∀ z σ', Inv z σ' → Det (F z) σ' cr Q) (hi : ¬ p → Inv y σ) (hT : p → (∀ z σ', Inv z σ' → Det (F z) σ' cr Q) → Det T σ cr Q) : Det (fun e => if p then T e else F y e) σ cr Q := by
 by_cases q : p
 ·exact Det.ifT (fun _ => q) (hT q key)
 ·exact Det.ifF (fun _ => q) (key _ _ (hi q))
theorem Sr.kp {lo : Nat} {σ' : Sy} (h : Sr n lo σ) (q : Kq n σ σ') : Sr n lo σ' := ⟨q.k, by rw [q.p]; exact h.r⟩
theorem V1 (hk : Keep n σ.a) (hp : σ.p = #[]) : Det (fun _ : SEnv n c => sortRuns') σ (fun _ r => r) (fun _ σ' => Keep n σ'.a) := by
 refine Det.get ?_
 simp only [Iw, Array.size_map, hk.size]
 refine Det.bind (Det.mono (Det.forRange (S := Option Unit × Nat) (x := (none, 0)) (fun _ x => x) (fun _ x σ' => x.1 = none ∧ x.2 ≤ n ∧ Sr n x.2 σ') (P := fun x σ' => x.1 = none ∧ x.2 ≤ n ∧ Sr n x.2 σ') ?s1 (fun _ _ q => q) ⟨rfl, Nat.zero_le _, hk, by rw [hp]; rfl⟩) ?p1)
 case p1 =>
  rintro ⟨x0, lo⟩ σ' ⟨rfl, hlo, q⟩
  dsimp only at hlo q ⊢
  refine Det.bind (Det.mono (Det.forRange (S := Option Unit × Unit) (x := (none, ())) (fun _ x => x) (fun _ x σ' => x.1 = none ∧ Sr n lo σ') (P := fun x σ' => x.1 = none ∧ Sr n lo σ') ?s9 (fun _ _ q => q) ⟨rfl, q⟩) ?p9)
  case p9 =>
   rintro ⟨x0, x1⟩ σ' ⟨rfl, q⟩
   exact Det.pure (r := ()) q.k
  case s9 =>
   rintro i ⟨x0, x1⟩ σ' _ _ ⟨rfl, q⟩
   refine Det.get ?_
   dsimp only [GT]
   refine Det.ite (p := σ'.p.size ≤ 1) (fun _ => Det.pure (r := .done (none, ())) ⟨rfl, q⟩) fun h1 => ?_
   have h2 := Nat.lt_of_lt_of_eq (Nat.lt_succ_self _) (Nat.sub_add_cancel (Nat.lt_of_not_le h1))
   exact q.mrg hlo (fun _ _ z => z) (Nat.lt_of_le_of_lt (Nat.succ_le_succ (Nat.sub_le _ _)) h2) h2 fun σ2 q2 => Det.ifF (fun _ h => by cases h) (Det.pure (r := .yield (none, ())) ⟨rfl, q2⟩)
 case s1 =>
  rintro i ⟨x0, lo⟩ σ' _ _ ⟨rfl, hlo, q⟩
  dsimp only at hlo q ⊢
  refine Det.ite (fun _ => Det.pure (r := .done (none, lo)) ⟨rfl, hlo, q⟩) fun h1 => ?_
  refine Det.bind (Det.mono (Be q.k (Nat.le_of_eq (Nat.add_sub_of_le hlo)) (Nat.sub_pos_of_lt (Nat.lt_of_not_ge h1))) ?_)
  rintro _ σ2 ⟨q2, m, rfl, hm1, hm2⟩
  dsimp only
  apply Det.iteM (p := m < minRun' n n 0) m (fun m' σ' => 1 ≤ m' ∧ lo + m' ≤ n ∧ Sr n lo σ')
  case hi => exact fun _ => ⟨hm1, Nat.add_le_of_le_sub' hlo hm2, q.kp q2⟩
  case hT =>
   intro hm K
   refine Det.rule ?_
   refine Det.bind (Det.mono (OA q2.k (Nat.add_le_of_le_sub' hlo (Nat.min_le_left _ _))) ?_)
   rintro _ σ3 ⟨q3, rfl⟩
   refine Det.ifF (fun _ h => by cases h) ?_
   exact K (min (n - lo) (minRun' n n 0)) σ3 ⟨Nat.le_min.mpr ⟨Nat.sub_pos_of_lt (Nat.lt_of_not_ge h1), Nat.zero_lt_of_lt hm⟩, Nat.add_le_of_le_sub' hlo (Nat.min_le_left _ _), (q.kp q2).kp q3⟩
  case key =>
   rintro m σ' ⟨hm1, hm2, q⟩
   have push : ∀ σ', Sr n lo σ' → Det (fun _ : SEnv n c => (modify fun s => setPending s ((pendingOf s).push (lo, m, 0))) >>= fun _ => (pure (ForInStep.yield (none, lo + m)) : StateT SortSt Sem (ForInStep (Option Unit × Nat)))) σ' (XV fun _ x => x) (ZE (fun x σ' => x.1 = none ∧ x.2 ≤ n ∧ Sr n x.2 σ') fun x σ' => x.1 = none ∧ x.2 ≤ n ∧ Sr n x.2 σ') := fun σ' q => by
    refine Det.modify (σ' := { σ' with p := σ'.p.push (lo, m, 0) }) (fun _ => rfl) (Det.pure (r := .yield (none, lo + m)) ⟨rfl, hm2, q.k, ?_⟩)
    show Zv 0 (σ'.p.push (lo, m, 0)).toList (lo + m)
    rw [Array.toList_push]
    exact q.r.push hm1
   refine Det.get ?_
   simp only [GT]
   cases hb : σ'.p.back? with
   | none => exact push σ' q
   | some x =>
    obtain ⟨s1, n1, u⟩ := x
    dsimp only
    refine Det.bind (Det.mono (Det.forRange (S := Option Unit × Unit) (x := (none, ())) (fun _ x => x) (fun _ x σ' => x.1 = none ∧ Sr n lo σ') (P := fun x σ' => x.1 = none ∧ Sr n lo σ') ?s5 (fun _ _ q => q) ⟨rfl, q⟩) ?p5)
    case s5 =>
     rintro i ⟨x0, x1⟩ σ' _ _ ⟨rfl, q⟩
     refine Det.get ?_
     simp only [GT]
     by_cases hs : σ'.p.size > 1
     ·have e1 : σ'.p[σ'.p.size - 2]? = some σ'.p[σ'.p.size - 2] := Array.getElem?_eq_getElem (Nat.sub_lt (Nat.lt_of_succ_lt hs) (by decide))
      simp only [hs, if_true, e1]
      refine Det.ite (fun _ => Det.pure (r := .done (none, ())) ⟨rfl, q⟩) fun h1 => ?_
      refine Det.bind (Det.mono (q.merge hlo (Nat.lt_of_lt_of_eq (Nat.lt_succ_self _) (Nat.sub_add_cancel hs))) ?_)
      rintro _ σ2 ⟨rfl, q2⟩
      exact Det.ifF (fun _ h => by cases h) (Det.pure (r := .yield (none, ())) ⟨rfl, q2⟩)
     ·simp only [hs, if_false]
      exact Det.pure (r := .done (none, ())) ⟨rfl, q⟩
    case p5 =>
     rintro ⟨x0, x1⟩ σ' ⟨rfl, q⟩
     dsimp only
     refine Det.modify (σ' := { σ' with p := σ'.p.modify (σ'.p.size - 1) fun x => (x.1, x.2.1, power' n (2 * s1 + n1) (2 * s1 + n1 + n1 + m) n) }) (fun _ => rfl) (push _ ⟨q.k, ?_⟩)
     show Zv 0 (σ'.p.modify (σ'.p.size - 1) fun x => (x.1, x.2.1, power' n (2 * s1 + n1) (2 * s1 + n1 + n1 + m) n)).toList lo
     rw [Array.toList_modify]
     exact q.r.modify _ _
end
theorem Ua (n : Nat) (c : Nat → Nat → Bool) : ∃ p : Array Nat, p.size = n ∧ (∀ x ∈ p, x < n) ∧ ∀ e : SEnv n c, wpS e.M e.A e.E e.s sortRuns' (fun _ st => arrOf st = p.map e.v ∧ failedOf st = none) (SortSt.mk' e.κ ((Array.range n).map e.v) #[] 7 none) := by
 obtain ⟨r, σ', q, h⟩ := V1 (n := n) (c := c) (σ := ⟨Array.range n, #[], 7⟩) ⟨by simp, fun x hx => by simpa using hx⟩ rfl
 exact ⟨σ'.a, q.size, q.low, fun e => wpS_mono (h e) fun a st z => by rw [z.2]; exact ⟨rfl, rfl⟩⟩
end Mine
end

section
namespace Mine
open PySem PySem.W PySem.Calls PyProof.Rows
noncomputable def Up : List Int → List Int → Bool
 | x :: xs, y :: ys => if x = y then Up xs ys else decide (x < y)
 | [], _ :: _ => true
 | _, [] => false
noncomputable def Kl (h : Heap) (v : Value) (k : List Int) : Prop := ∃ a o xs n, v = .ref a ∧ h.get? a = some o ∧ o.cls = .type "tuple" ∧ o.data = .seq xs n ∧ IntsAre xs.toList k
theorem Kl.keep {h h' : Heap} {v : Value} {k : List Int} (q : Kl h v k) (hk : ∀ a o, h.get? a = some o → o.cls = .type "tuple" → h'.get? a = some o) : Kl h' v k := by
 obtain ⟨a, o, xs, n, e, ho, hc, r⟩ := q
 exact ⟨a, o, xs, n, e, hk a o ho hc, hc, r⟩
section
variable {prog : Program} {w : World} {A : Around} {E : Value → Shared → Prop} {s : Shared} {Q : Bool → Shared → Prop}
theorem GB {b : Bool} {x y : Int} {t u : Tok} (h : Q (decide (x < y)) s) : wpAny (model prog w) A (oneLt' b (.int x t) (.int y u)) Q E s := by
 cases b with
 | true => exact oneLt_int h
 | false => exact kat_one _ _ (PySem.P.lt_int h)
theorem Fh {b fin : Bool} : ∀ {xs ys : List Value} {k l : List Int} (i : Nat), IntsAre xs k → IntsAre ys l → fin = decide (k.length < l.length) → Q (Up k l) s → KatLex prog w A b fin Q (xs.zip ys) i s
 | _, _, _, _, i, .nil, .nil, hf, h => by rw [hf]; exact kat_nil h
 | _, _, _, _, i, .nil, .cons y u r, hf, h => by rw [hf]; exact kat_nil h
 | _, _, _, _, i, .cons x t r, .nil, hf, h => by rw [hf]; exact kat_nil h
 | _, _, _, _, i, .cons (vs := xs) (ns := k) x t r, .cons (vs := ys) (ns := l) y u r', hf, h => by
  have hf' : fin = decide (k.length < l.length) := by rw [hf]; exact decide_eq_decide.mpr (by rw [List.length_cons, List.length_cons]; omega)
  refine kat_cons (wpAny_eqBool_int ?_)
  by_cases hxy : x = y
  ·rw [show Up (x :: k) (y :: l) = Up k l from if_pos hxy] at h
   rw [show (x == y) = true from beq_iff_eq.mpr hxy]
   exact kat_yes (Fh (i + 1) r r' hf' h)
  ·rw [show Up (x :: k) (y :: l) = decide (x < y) from if_neg hxy] at h
   rw [show (x == y) = false from beq_eq_false_iff_ne.mpr hxy]
   exact kat_no (GB h)
theorem Vf {xs : Array Value} {k : List Int} (h : IntsAre xs.toList k) : xs.size = k.length := by
 rw [← Array.length_toList]
 generalize xs.toList = l at h
 induction h with
 | nil => rfl
 | cons x t r ih => rw [List.length_cons, List.length_cons, ih]
theorem Hz {b : Bool} {v u : Value} {k l : List Int} (hv : Kl s.heap v k) (hu : Kl s.heap u l) (h : Q (Up k l) s) : wpAny (model prog w) A (keyLt' (tuples' b) v u) Q E s := by
 obtain ⟨a, o, xs, n, rfl, ho, hc, hd, hx⟩ := hv
 obtain ⟨a', o', ys, n', rfl, ho', hc', hd', hy⟩ := hu
 exact kat_lt ho hd ho' hd' (Fh 0 hx hy (by rw [Vf hx, Vf hy]) h)
end
noncomputable def Xq (ks : List (List Int)) : List Nat := if ks.length < 2 then List.range ks.length else (Classical.choose (Ua ks.length fun i j => Up (ks.getD i []) (ks.getD j []))).toList
theorem U7 {ks : List (List Int)} (h : ¬ ks.length < 2) : (Xq ks).length = ks.length ∧ ∀ e : SEnv ks.length (fun i j => Up (ks.getD i []) (ks.getD j [])), wpS e.M e.A e.E e.s sortRuns' (fun _ st => arrOf st = (Xq ks).toArray.map e.v ∧ failedOf st = none) (SortSt.mk' e.κ ((Array.range ks.length).map e.v) #[] 7 none) := by
 have := Classical.choose_spec (Ua ks.length fun i j => Up (ks.getD i []) (ks.getD j []))
 obtain ⟨p, hp⟩ : ∃ p, p = Classical.choose (Ua ks.length fun i j => Up (ks.getD i []) (ks.getD j [])) := ⟨_, rfl⟩
 rw [← hp] at this
 have e : Xq ks = p.toList := by rw [hp]; exact if_neg h
 rw [e]
 exact ⟨this.1, this.2.2⟩
theorem Kz {ks : List (List Int)} : ∀ i ∈ Xq ks, i < ks.length := by
 unfold Xq
 split
 ·intro i hi; exact List.mem_range.mp hi
 ·intro i hi
  exact (Classical.choose_spec (Ua ks.length fun i j => Up (ks.getD i []) (ks.getD j []))).2.1 i (Array.mem_toList_iff.mp hi)
theorem WG (ks : List (List Int)) : (Xq ks).length = ks.length := by
 by_cases h : ks.length < 2
 ·unfold Xq; rw [if_pos h, List.length_range]
 ·exact (U7 h).1
theorem Vp {vs : List Value} : vs.toArray.zip vs.toArray = (Array.range vs.length).map fun i => (vs.getD i Value.none, vs.getD i Value.none) := by
 apply Array.ext
 ·simp
 ·intro i h1 h2
  have hi : i < vs.length := by simpa using h1
  simp [hi]
noncomputable def Wf (h : Heap) (vs : List Value) (ks : List (List Int)) : Prop := vs.length = ks.length ∧ ∀ i, i < ks.length → Kl h (vs.getD i Value.none) (ks.getD i []) ∧ ks.getD i [] ≠ []
theorem Wf.keep {h h' : Heap} {vs : List Value} {ks : List (List Int)} (q : Wf h vs ks) (hk : ∀ a o, h.get? a = some o → o.cls = .type "tuple" → h'.get? a = some o) : Wf h' vs ks := ⟨q.1, fun i hi => ⟨(q.2 i hi).1.keep hk, (q.2 i hi).2⟩⟩
theorem Vn {M : Model} {h : Heap} : ∀ {vs : List Value} {ks : List (List Int)}, vs.length = ks.length → (∀ i, i < ks.length → Kl h (vs.getD i Value.none) (ks.getD i []) ∧ ks.getD i [] ≠ []) → ∃ fs, KatTups h vs fs ∧ fs.length = vs.length ∧ ∀ v ∈ fs, Looks M h (typeOf v) (.type "int")
 | [], [], _, _ => ⟨[], KatTups.nil, rfl, fun v hv => by cases hv⟩
 | v :: vs, k :: ks, hl, q => by
  obtain ⟨⟨a, o, xs, n, e, ho, hc, hd, hx⟩, hne⟩ := q 0 (Nat.succ_pos _)
  obtain ⟨fs, t, hf, hT⟩ := Vn (M := M) (vs := vs) (ks := ks) (by simpa using hl) fun i hi => q (i + 1) (Nat.succ_lt_succ hi)
  have e' : v = .ref a := e
  subst e'
  have hne' : k ≠ [] := hne
  have hx' : IntsAre xs.toList k := hx
  cases hxs : xs.toList with
  | nil => rw [hxs] at hx'; cases hx'; exact absurd rfl hne'
  | cons f r =>
   rw [hxs] at hx'
   have h0 : xs[0]? = some f := by rw [← Array.getElem?_toList, hxs]; rfl
   refine ⟨f :: fs, KatTups.cons ho hc hd h0 t, by rw [List.length_cons, List.length_cons, hf], fun u hu => ?_⟩
   cases hu with
   | head =>
    cases hx' with
    | cons x t r => exact Looks.of_pure rfl
   | tail _ hu => exact hT u hu
section
variable {prog : Program} {w : World} {A : Around} {E : Value → Shared → Prop} {s : Shared}
theorem Ez {a : Addr} {vs : List Value} {ks : List (List Int)} {n : Nat} {P : PySem.Fin → Shared → Prop} (ho : s.heap.get? a = some (seqObj "list" vs.toArray n)) (hr : Wf s.heap vs ks) (hl : ks.length ≤ 1000)
  (h : P (.done (.ret .none)) { s with heap := sortedHeap s.heap a vs ((Xq ks).map fun i => vs.getD i Value.none).toArray }) :
  wpAny (model prog w) A (Builtin.«list.sort» ⟨[.ref a], []⟩) P E s := by
 rw [list_sort_plain]
 have ha : a < s.heap.objs.size := Heap.lt_size ho
 have hvl : vs.length ≤ 1000 := by rw [hr.1]; exact hl
 have hsl : ∀ m, m ≤ 1000 → m ≤ sizeLine + 1 := fun m hm => by rw [sizeLine_eq]; omega
 refine wpAny_bind (listItems_at ho rfl ?_)
 refine wpAny_bind (listUpdate_at ho rfl ?_ (by rw [List.size_toArray, sizeLine_eq]; omega) (Nat.zero_le _))
 obtain ⟨e1, ho1⟩ : ∃ e1, (s.heap.update a (Obj.mapSeq fun _ => #[])).get? a = some (seqObj "list" #[] e1) := ⟨_, get?_update_seq ho (fun _ => #[])⟩
 refine wpAny_bind (seqEpoch_at ho1 rfl ?_)
 refine wpAny_bind (wpAny_newTuple ?_ (by show vs.length ≤ _; rw [sizeLine_eq]; omega))
 refine wpAny_bind (wpAny_newList ?_ (Nat.zero_le _))
 refine wpAny_holding ?_
 have ho6 : (((s.heap.update a (Obj.mapSeq fun _ => #[])).push (seqObj "tuple" vs.toArray 0)).push (seqObj "list" #[] 0)).get? a = some (seqObj "list" #[] e1) := by
  rw [Heap.get?_push_ne _ _ _ (by rw [size_push', Heap.size_update]; exact Nat.ne_of_lt (Nat.lt_succ_of_lt ha)), Heap.get?_push_ne _ _ _ (by rw [Heap.size_update]; exact Nat.ne_of_lt ha)]
  exact ho1
 have hr6 : Wf (((s.heap.update a (Obj.mapSeq fun _ => #[])).push (seqObj "tuple" vs.toArray 0)).push (seqObj "list" #[] 0)) vs ks := hr.keep fun b o hb hc => by
  have hba : b ≠ a := by rintro rfl; rw [ho] at hb; cases hb; exact absurd (show Value.type "list" = Value.type "tuple" from hc) (by decide)
  exact Heap.get?_push_of_some _ (Heap.get?_push_of_some _ ((Heap.get?_update_other _ _ (Ne.symm hba)).trans hb))
 show wpAny (model prog w) A _ P E { s with heap := ((s.heap.update a (Obj.mapSeq fun _ => #[])).push (seqObj "tuple" vs.toArray 0)).push (seqObj "list" #[] 0) }
 dsimp only
 have hout : ((Xq ks).map fun i => vs.getD i Value.none).toArray.size = vs.length := by rw [List.size_toArray, List.length_map, WG, hr.1]
 by_cases h2 : vs.toArray.size < 2
 ·rw [if_pos h2, if_pos h2]
  refine wpAny_bind (wpAny_pure ?_)
  rw [StateT.run_pure]
  refine wpAny_bind (wpAny_pure ?_)
  dsimp only
  have e0 : (vs.toArray.zip vs.toArray).map (·.2) = ((Xq ks).map fun i => vs.getD i Value.none).toArray := by
   have h2' : ks.length < 2 := by rw [← hr.1]; simpa using h2
   rw [Vp, show Xq ks = List.range ks.length from if_pos h2', ← hr.1]
   apply Array.toList_inj.mp
   simp
  refine wpAny_bind (seqEpoch_at ho6 rfl ?_)
  rw [show ((arrOf (SortSt.mk' general' (vs.toArray.zip vs.toArray) #[] 7 none)).map (·.2)) = _ from e0]
  refine wpAny_bind (listUpdate_at ho6 rfl ?_ (hsz2 := by rw [hout]; exact hsl _ hvl))
  simp only [bne_self_eq_false, Bool.false_eq_true, if_false]
  exact wpAny_pure h
 ·rw [if_neg h2, if_neg h2]
  have h2' : ¬ ks.length < 2 := by rw [← hr.1]; simpa using h2
  obtain ⟨fs, t, hf, hT⟩ := Vn (M := model prog w) hr6.1 hr6.2
  refine wpAny_bind (kat_kind t (by rw [hf, hr.1]; omega) hT (by decide) ?_)
  have run := (U7 h2').2 { M := model prog w, A := A, E := E, s := { s with heap := ((s.heap.update a (Obj.mapSeq fun _ => #[])).push (seqObj "tuple" vs.toArray 0)).push (seqObj "list" #[] 0) }, κ := tuples' (Value.type "int" != Value.type "tuple"), v := fun i => (vs.getD i Value.none, vs.getD i Value.none), ask := fun i j hi hj C hC => Hz (hr6.2 i hi).1 (hr6.2 j hj).1 hC }
  dsimp only at run
  rw [← hr.1, ← Vp] at run
  refine wpAny_bind (wpAny_mono run ?_ fun _ _ e => e)
  rintro ⟨⟨⟩, st'⟩ s' ⟨rfl, hp, hf⟩
  dsimp only at hp hf ⊢
  have e0 : (arrOf st').map (·.2) = ((Xq ks).map fun i => vs.getD i Value.none).toArray := by
   rw [hp]
   apply Array.toList_inj.mp
   simp
  refine wpAny_bind (seqEpoch_at ho6 rfl ?_)
  rw [e0]
  refine wpAny_bind (listUpdate_at ho6 rfl ?_ (hsz2 := by rw [hout]; exact hsl _ hvl))
  rw [hf]
  simp only [bne_self_eq_false, Bool.false_eq_true, if_false]
  exact wpAny_pure h
end
noncomputable def K0 (h : Heap) (d : Addr) (es : Array DictEntry) (ep : Nat) : Prop := ∃ o, h.get? d = some o ∧ o.cls = .type "dict" ∧ o.data = .dict es ep
theorem K0.at' {h h' : Heap} {d : Addr} {es : Array DictEntry} {ep : Nat} (x : K0 h d es ep) (k : ∀ o, h.get? d = some o → h'.get? d = some o) : K0 h' d es ep := by
 obtain ⟨o, ho, r⟩ := x
 exact ⟨o, k o ho, r⟩
section
variable {prog : Program} {w : World} {A : Around} {E : Value → Shared → Prop} {s : Shared} {d it : Addr} {es : Array DictEntry} {ep i : Nat}
theorem K0.typeIs (x : K0 s.heap d es ep) : s.TypeIs (.ref d) "dict" := by
 obtain ⟨o, ho, hc, _⟩ := x
 exact ⟨o, ho, hc⟩
theorem FR {Q : Value → Shared → Prop} (lo : (d == sysModules) = false) (x : K0 s.heap d es ep)
  (hQ : Q (.ref s.heap.objs.size) { s with heap := s.heap.push { cls := .type "dict_keyiterator", data := .fields #[.ref d, .int 0 0, .int es.size 0, .int ep 0] } }) :
  wpAny (model prog w) A (pyIter (.ref d)) Q E s := by
 have hT := x.typeIs
 obtain ⟨o, ho, hc, hd⟩ := x
 refine wpAny_pyIter_slot hT F.slot_dict_iter (wpAny_call_entry F.slot_dict_iter hT F.entry_dict_iter ?_ (F.args_dict_iter_1 _))
 unfold Builtin.«dict.__iter__» Builtin.Dict.dictSlotNone
 refine wpAny_bind (wpAny_bind (wpAny_notOrdered_dict hT (wpAny_pure ?_)))
 show wpAny _ _ (Builtin.Dict.showsAll d >>= _) _ _ s
 unfold Builtin.Dict.showsAll
 rw [if_neg (by rw [lo]; exact Bool.false_ne_true)]
 refine wpAny_bind (wpAny_pure (wpAny_bind (wpAny_dictEntries ho hd (wpAny_bind (wpAny_dictEpoch ho hd ?_)))))
 refine wpAny_bind (wpAny_newObj_type (wpAny_pure ⟨_, rfl, "dict_keyiterator", _, ⟨_, Heap.get?_push_size _ rfl, rfl⟩, F.slot_dict_keyiterator_next.lookup, ?_⟩))
 exact hQ
theorem Ge {Q : Option Value → Shared → Prop} (hit : s.heap.IsKeyIter it d i es.size ep) (x : K0 s.heap d es ep) {e : DictEntry} (he : es[i]? = some e)
  (hQ : ∀ h', h'.IsKeyIter it d (i + 1) es.size ep → Heap.SameBut it s.heap h' → Q (some e.key) { s with heap := h' }) :
  wpAny (model prog w) A (pyNext (.ref it)) Q E s := by
 obtain ⟨o, ho, hc, hd⟩ := id hit
 obtain ⟨od, hod, hcd, hdd⟩ := x
 unfold pyNext
 refine wpAny_bind (wpAny_attempt (wpAny_callSpecial?_slot (name := Str.ofString "__next__") hit.typeIs F.slot_dict_keyiterator_next
  (wpAny_call_entry F.slot_dict_keyiterator_next hit.typeIs F.entry_dict_keyiterator_next ?_ (F.args_dict_keyiterator_next_1 _))))
 refine wpAny_bind (wpAny_pure (wpAny_bind (wpAny_bind ?_)))
 first | refine wpAny_bind (wpAny_typeNameOfWhole_keyiter hit.typeIs (wpAny_pure ?_)) | refine wpAny_bind (wpAny_typeNameOf_keyiter hit.typeIs (wpAny_pure ?_))
 refine wpAny_bind (wpAny_fieldsOf ho hd ?_)
 simp only [show Builtin.Dict_items.ownsTuple "dict_keyiterator" = false by decide, Bool.false_eq_true, if_false]
 show wpAny _ _ (if (Value.ref d == Value.none) = true then _ else _) _ _ s
 rw [if_neg (show ¬ ((Value.ref d == Value.none) = true) from Bool.false_ne_true)]
 refine wpAny_bind (wpAny_pure (wpAny_bind (wpAny_dictEntries hod hdd ?_)))
 rw [if_neg (by simp)]
 refine wpAny_bind (wpAny_pure (wpAny_bind (wpAny_dictEpoch hod hdd ?_)))
 rw [if_neg (by simp)]
 refine wpAny_pure ?_
 simp only [show ¬ ((i : Int) < 0) from by omega, if_false, Int.toNat_natCast, he]
 refine wpAny_bind ?_
 first | refine wpAny_bind (wpAny_typeNameOfWhole_keyiter hit.typeIs (wpAny_pure ?_)) | refine wpAny_bind (wpAny_typeNameOf_keyiter hit.typeIs (wpAny_pure ?_))
 refine wpAny_bind (wpAny_isOneOf_keyiter hit.typeIs ?_)
 show wpAny _ _ (setField (.ref it) 1 (rawInt ((i : Int) + 1)) >>= _) _ _ s
 refine wpAny_bind (wpAny_setField ho hd (by simp) ?_)
 have hit' : (s.heap.update it (Obj.mapFields (·.setIfInBounds 1 (rawInt ((i : Int) + 1))))).IsKeyIter it d (i + 1) es.size ep :=
  ⟨_, Heap.get?_update_self _ ho (Obj.isFreed_of_fields (Obj.data_mapFields hd _)), (Obj.cls_mapFields ..).trans hc, by rw [Obj.data_mapFields hd]; simp [rawInt]⟩
 refine wpAny_bind (wpAny_holding ?_)
 refine wpAny_bind (wpAny_isOneOf_keyiter (s := { s with heap := s.heap.update it (Obj.mapFields (·.setIfInBounds 1 (rawInt ((i : Int) + 1)))) }) hit'.typeIs ?_)
 show wpAny _ _ (pure e.key) _ _ _
 exact wpAny_pure (wpAny_pure ⟨_, rfl, wpAny_pure (hQ _ hit' (Heap.SameBut.update ..))⟩)
theorem F1 {Q : Option Value → Shared → Prop} (hh : A.handled = none) (hit : s.heap.IsKeyIter it d es.size es.size ep) (x : K0 s.heap d es ep)
  (hQ : ∀ h', Heap.ExtBut it s.heap h' → Q none { s with heap := h' }) : wpAny (model prog w) A (pyNext (.ref it)) Q E s := by
 obtain ⟨o, ho, hc, hd⟩ := id hit
 obtain ⟨od, hod, hcd, hdd⟩ := x
 unfold pyNext
 refine wpAny_bind (wpAny_attempt (wpAny_callSpecial?_slot (name := Str.ofString "__next__") hit.typeIs F.slot_dict_keyiterator_next
  (wpAny_call_entry F.slot_dict_keyiterator_next hit.typeIs F.entry_dict_keyiterator_next ?_ (F.args_dict_keyiterator_next_1 _))))
 refine wpAny_bind (wpAny_pure (wpAny_bind (wpAny_bind ?_)))
 first | refine wpAny_bind (wpAny_typeNameOfWhole_keyiter hit.typeIs (wpAny_pure ?_)) | refine wpAny_bind (wpAny_typeNameOf_keyiter hit.typeIs (wpAny_pure ?_))
 refine wpAny_bind (wpAny_fieldsOf ho hd ?_)
 simp only [show Builtin.Dict_items.ownsTuple "dict_keyiterator" = false by decide, Bool.false_eq_true, if_false]
 show wpAny _ _ (if (Value.ref d == Value.none) = true then _ else _) _ _ s
 rw [if_neg (show ¬ ((Value.ref d == Value.none) = true) from Bool.false_ne_true)]
 refine wpAny_bind (wpAny_pure (wpAny_bind (wpAny_dictEntries hod hdd ?_)))
 rw [if_neg (by simp)]
 refine wpAny_bind (wpAny_pure (wpAny_bind (wpAny_dictEpoch hod hdd ?_)))
 rw [if_neg (by simp)]
 refine wpAny_pure ?_
 simp only [show ¬ ((es.size : Int) < 0) from by omega, if_false, Int.toNat_natCast, Array.getElem?_eq_none (Nat.le_refl es.size)]
 refine wpAny_bind ?_
 first | refine wpAny_bind (wpAny_typeNameOfWhole_keyiter hit.typeIs (wpAny_pure ?_)) | refine wpAny_bind (wpAny_typeNameOf_keyiter hit.typeIs (wpAny_pure ?_))
 show wpAny _ _ (setField (.ref it) 0 .none >>= _) _ _ s
 refine wpAny_bind (wpAny_setField ho hd (by simp) ?_)
 show wpAny _ _ (newExc (.type "StopIteration") [] >>= _) _ _ _
 refine wpAny_bind ?_
 simp only [newExc, newTuple]
 refine wpAny_bind (wpAny_newObj_type ?_ (by size_fits))
 refine wpAny_bind (m := firstArgMember _ _) (wpAny_of_eq (a := Value.none) (by first | rfl | (simp only [firstArgMember]; rfl)) ?_)
 refine wpAny_newObj_type ?_ (by size_fits)
 simp only [raiseNew]
 refine wpAny_bind (wpAny_handled ?_)
 rw [show A.in1.handled = none from hh]
 refine wpAny_bind (wpAny_pure (wpAny_throw ?_))
 refine wpAny_bind (wpAny_isInstance (T := "StopIteration") (b := true) ⟨_, Heap.get?_push_size _ rfl, rfl⟩ isSubtype_stop ?_)
 exact wpAny_pure (hQ _ (((Heap.SameBut.update ..).extBut.push _).push _))
theorem EL (hh : A.handled = none) (I : Addr) (hne : d ≠ I) : Walks prog w A I [I, d] [I] es.size (fun i v => ∃ e, es[i]? = some e ∧ v = e.key) (fun i h => h.IsKeyIter I d i es.size ep ∧ K0 h d es ep) where
 sub := fun b hb => by rw [List.mem_singleton.mp hb]; exact .head _
 frame := fun _ _ _ st hk => ⟨st.1.at fun o e => hk I (.head _) o e, st.2.at' fun o e => hk d (.tail _ (.head _)) o e⟩
 item := fun i s Q E hi st hQ => by
  refine Ge st.1 st.2 (Array.getElem?_eq_getElem hi) fun h' hit' hs' => ?_
  exact hQ _ h' s.toks ⟨_, Array.getElem?_eq_getElem hi, rfl⟩ ⟨hit', st.2.at' fun o e => hs'.extBut d o hne e⟩ fun b o hb e => hs'.extBut b o (fun q => hb (by rw [q]; exact .head _)) e
 done := fun s Q E st hQ => F1 hh st.1 st.2 fun h' he' => hQ h' s.toks fun b o hb e => he' b o (fun q => hb (by rw [q]; exact .head _)) e
 self := fun _ _ _ _ st hQ => wpAny_pyIter_keyiter st.1 hQ
theorem GE (lo : (d == sysModules) = false) : KdlSrc prog w "dict" d d es.size (fun i v => ∃ e, es[i]? = some e ∧ v = e.key) (fun h => K0 h d es ep) where
 type := fun _ x => x.typeIs
 there := fun _ x => by obtain ⟨o, ho, _⟩ := x; exact ⟨Heap.lt_size ho, Heap.lt_size ho⟩
 keep := fun _ _ x hk => x.at' fun o e => hk d (.inl rfl) o e
 notList := by decide
 notTuple := by decide
 hint := fun _ _ _ _ x hq => kdl_hint_dict x.typeIs hq
 iter := fun A s hh x => ⟨_, _, fun _ _ hq => FR lo x hq, EL hh _ (Nat.ne_of_lt (by obtain ⟨o, ho, _⟩ := x; exact Heap.lt_size ho)), ⟨⟨_, Heap.get?_push_size _ rfl, rfl, rfl⟩, x.at' fun o e => Heap.get?_push_of_some _ e⟩⟩
theorem Da {ks : List (List Int)} {Q : Value → Shared → Prop} (hh : A.handled = none) (lo : (d == sysModules) = false) (x : K0 s.heap d es ep) (hr : Wf s.heap (es.toList.map (·.key)) ks) (hl : ks.length ≤ 1000)
  (h : ∀ (h' : Heap) (tk : Nat) (a : Addr) (e : Nat), (∀ b o, s.heap.get? b = some o → h'.get? b = some o) → s.heap.get? a = none → h'.get? a = some (seqObj "list" ((Xq ks).map fun i => (es.toList.map (·.key)).getD i Value.none).toArray e) → Q (.ref a) { s with heap := h', toks := tk }) :
  wpAny (model prog w) A (call (.builtin "sorted") [.ref d]) Q E s := by
 have hes : es.size = ks.length := by rw [← hr.1, List.length_map, Array.length_toList]
 refine call_function_entry kind_sorted plain_sorted entry_sorted (args_sorted1 _) ?_
 unfold Builtin.«sorted»
 refine wpAny_bind (m := checkCount "sorted" 1 1 _) (wpAny_pure ?_)
 refine wpAny_bind (kdu_collect (A := A.in1) (GE lo) hh x (by rw [hes, sizeLine_eq]; omega) fun h₁ tk acc hk hacc => ?_)
 have eacc : acc.toList = es.toList.map (·.key) := by
  apply List.ext_getElem?
  intro j
  rw [List.getElem?_map, Array.getElem?_toList, Array.getElem?_toList]
  cases hj : acc[j]? with
  | none =>
   have : es[j]? = none := by
    rw [Array.getElem?_eq_none_iff] at hj ⊢
    rw [← hacc.1]; exact hj
   rw [this]; rfl
  | some v =>
   obtain ⟨e, e1, e2⟩ := hacc.2 j v hj
   rw [e1, e2]; rfl
 have hr1 : Wf h₁ acc.toList ks := by rw [eacc]; exact hr.keep fun b o e _ => hk b o e
 rw [← eacc] at h
 have hsz : acc.toList.length ≤ 1000 := by rw [hr1.1]; exact hl
 refine wpAny_bind (wpAny_newList ?_ (by rw [sizeLine_eq]; omega))
 have hoL : (h₁.push (seqObj "list" acc.toList.toArray 0)).get? h₁.objs.size = some (seqObj "list" acc.toList.toArray 0) := Heap.get?_push_size _ rfl
 refine wpAny_bind (wpAny_holding (wpAny_call_entry slot_list_sort ⟨_, hoL, rfl⟩ entry_list_sort (Ez hoL (hr1.keep fun b o e _ => Heap.get?_push_of_some _ e) hl ⟨_, rfl, ?_⟩) (args_list_sort _)))
 have hn : s.heap.get? h₁.objs.size = none := by
  cases q : s.heap.get? h₁.objs.size with
  | none => rfl
  | some o => exact absurd (Heap.lt_size (hk _ _ q)) (Nat.lt_irrefl _)
 have sameO : ∀ (b : Addr) (o : Obj), h₁.get? b = some o → (sortedHeap (h₁.push (seqObj "list" acc.toList.toArray 0)) h₁.objs.size acc.toList ((Xq ks).map fun i => acc.toList.getD i Value.none).toArray).get? b = some o := fun b o e => by
  have hb : h₁.objs.size ≠ b := Nat.ne_of_gt (Heap.lt_size e)
  unfold sortedHeap
  rw [Heap.get?_update_other _ _ hb]
  exact Heap.get?_push_of_some _ (Heap.get?_push_of_some _ ((Heap.get?_update_other _ _ hb).trans (Heap.get?_push_of_some _ e)))
 obtain ⟨c1, hc1⟩ : ∃ c1, (sortedHeap (h₁.push (seqObj "list" acc.toList.toArray 0)) h₁.objs.size acc.toList ((Xq ks).map fun i => acc.toList.getD i Value.none).toArray).get? h₁.objs.size = some (seqObj "list" ((Xq ks).map fun i => acc.toList.getD i Value.none).toArray c1) := by
  obtain ⟨e1, ho1⟩ : ∃ e1, ((h₁.push (seqObj "list" acc.toList.toArray 0)).update h₁.objs.size (Obj.mapSeq fun _ => #[])).get? h₁.objs.size = some (seqObj "list" #[] e1) := ⟨_, get?_update_seq hoL fun _ => #[]⟩
  exact ⟨_, get?_update_seq (Heap.get?_push_of_some _ (Heap.get?_push_of_some _ ho1)) fun _ => _⟩
 exact wpAny_pure ⟨_, rfl, h _ tk _ c1 (fun b o e => sameO b o (hk b o e)) hn hc1⟩
end
noncomputable def XA (ks : List (List Int)) : List (List Int) := (Xq ks).map fun i => ks.getD i []
theorem Yz {ks : List (List Int)} {k : List Int} (h : k ∈ XA ks) : k ∈ ks := by
 obtain ⟨i, hi, rfl⟩ := List.mem_map.mp h
 have := Kz i hi
 rw [List.getD_eq_getElem?_getD, List.getElem?_eq_getElem this]
 exact List.getElem_mem _
theorem J8 (ks : List (List Int)) : (XA ks).length = ks.length := by unfold XA; rw [List.length_map, WG]
noncomputable def JL (i : Nat) : AEnv → Res T := fun ρ => ob (Zp ρ i) fun q => if q.1.length ≤ 1000 ∧ [] ∉ q.1 then .ok (.ow true (.list ((XA q.1).map Yv))) ρ else .stuck
theorem E9 {S : Addr → Prop} {h : Heap} {k : List Int} : ∀ {vs : List Value}, RVs S h vs (k.map .int) → IntsAre vs k := by
 induction k with
 | nil => intro vs q; cases q; exact .nil
 | cons i k ih =>
  intro vs q
  cases q with
  | cons q r =>
   cases q with
   | int i t => exact .cons i t (ih r)
theorem Fn {S : Addr → Prop} {h : Heap} {v : Value} {k : List Int} (q : RV S h v (Yv k)) : Kl h v k := by
 unfold Yv at q
 cases q with
 | tup e hc hd r => exact ⟨_, _, _, _, rfl, e, hc, hd, E9 r⟩
theorem DQ {S : Addr → Prop} {h : Heap} {vs : List Value} {ks : List (List Int)} (hl : vs.length = ks.length) (hr : ∀ i, i < ks.length → RV S h (vs.getD i Value.none) (Yv (ks.getD i []))) : ∀ (l : List Nat), (∀ i ∈ l, i < ks.length) → RVs S h (l.map fun i => vs.getD i Value.none) ((l.map fun i => ks.getD i []).map Yv)
 | [], _ => .nil
 | i :: l, h => .cons (hr i (h i (.head _))) (DQ hl hr l fun j hj => h j (.tail _ hj))
section
variable {G : Gd} {k : Nat} {sc : Scope}
theorem BZ {g x : Str} {p px pos : Pos} {i : Nat} (hq : G.quiet = true) (hn : Sim G k sc (.Name g p) (Qe (.glob (.builtin "sorted")))) (hx : (Qf sc)[i]? = some x) (hd : (x == ("__debug__" : Str)) = false) (hc : (x == ("__classdict__" : Str)) = false) : Sim G k sc (.Call (.Name g p) [.Name x px] [] pos) (JL i) := by
 intro cx ok ρ S s r Q E out
 obtain ⟨q, hqd, out⟩ := out.ob
 by_cases hcond : q.1.length ≤ 1000 ∧ [] ∉ q.1
 case neg => rw [if_neg hcond] at out; exact out.elim
 rw [if_pos hcond] at out
 obtain ⟨hl, hne⟩ := hcond
 obtain ⟨m, e⟩ := US hqd
 show wpAny G.M cx.A (do callWith pos (← eval (.Name g p) cx.env) [] (backTo pos (starEach [.Name x px] cx.env)) []) Q E s
 refine wpAny_bind (hn cx ok ρ S s r _ _ ?_)
 intro v h₁ t₁ S₁ r₁ j₁ x₁ v₁
 have hv : v = .builtin "sorted" := by cases j₁; rfl
 subst hv
 refine ZQ (fun a q => by cases q) (YN _ rfl) (X1 rfl ?_)
 rw [Yj rfl]
 obtain ⟨d, hvr, da, _, _⟩ := r₁.dict hx e
 refine wpAny_bind (wpAny_Name (Xr (ok.mono (Nat.zero_le _)) hvr hc rfl ?_) hd)
 refine wpAny_bind (wpAny_pure (wpAny_bind (wpAny_holding (wpAny_pure (wpAny_pure ?_)))))
 obtain ⟨o, es, n, xs, e', hcl, hdt, he, hks, nd, hr, rv, hm⟩ := da
 have ek : es.toList.map (·.key) = xs.map fun y => Value.ref y.2.1 := by rw [he, List.map_map]; rfl
 have hlen : (es.toList.map (·.key)).length = q.1.length := by rw [ek, ← hks, List.length_map, List.length_map]
 have hrow : ∀ i, i < q.1.length → RV S₁ h₁ ((es.toList.map (·.key)).getD i Value.none) (Yv (q.1.getD i [])) := fun i hi => by
  have hi' : i < xs.length := by rw [← hks, List.length_map] at hi; exact hi
  rw [ek, ← hks, List.getD_eq_getElem?_getD, List.getD_eq_getElem?_getD, List.getElem?_map, List.getElem?_map, List.getElem?_eq_getElem hi']
  exact hr _ (List.getElem_mem _)
 refine Da (s := { s with heap := h₁, toks := t₁ }) (ks := q.1) (ok.hd hq) hm ⟨o, e', hcl.1, hdt⟩ ⟨hlen, fun i hi => ⟨Fn (hrow i hi), fun z => hne ?_⟩⟩ hl fun h' tk a ep hk hb hea => ?_
 ·rw [← z, List.getD_eq_getElem?_getD, List.getElem?_eq_getElem hi]
  exact List.getElem_mem _
 ·obtain ⟨r', x', v'⟩ := r₁.keepsE hk
  refine out _ h' tk S₁ r' (XQ (s := { s with heap := h₁, toks := t₁ }) r₁ (.of_keeps hk) hb hea ?_) (x₁.trans x') fun q => (v₁ q).trans v'
  exact DQ hlen (fun i hi => (hrow i hi).ext x') _ fun i hi => Kz i hi
end
end Mine
end

section
namespace Mine
open PySem PyProof.Rows
noncomputable def wkT : T → T
 | .sh d => .sh d
 | .ow _ d => .ow false d
noncomputable def wk (ρ : AEnv) : AEnv := ρ.map (Option.map wkT)
theorem Fs {ρ : AEnv} {i : Nat} {t : T} (e : (wk ρ)[i]? = some (some t)) : ∃ u, ρ[i]? = some (some u) ∧ t = wkT u := by
 rw [wk, List.getElem?_map] at e
 cases h : ρ[i]? with
 | none => rw [h] at e; cases e
 | some o =>
  rw [h] at e
  cases o with
  | none => cases e
  | some u => cases e; exact ⟨u, rfl, rfl⟩
theorem DB {ρ : AEnv} {i : Nat} {m : Bool} {d : D} (e : (wk ρ)[i]? = some (some (.ow m d))) : ∃ m', ρ[i]? = some (some (.ow m' d)) := by
 obtain ⟨u, h, q⟩ := Fs e
 cases u with
 | sh d' => cases q
 | ow m' d' => cases q; exact ⟨m', h⟩
section
variable {G : Gd} {k : Nat} {cx : Cx} {sc : Scope} {ρ ρ' : AEnv} {i : Nat} {x : Str} {S S' : Addr → Prop} {h h' : Heap}
theorem Rel.weak (r : Rel G cx sc ρ S h) : Rel G (cx.base h S) sc (wk ρ) S h where
 base := r.base
 keep := Kp.refl h
 ff := r.ff
 ns := r.ns
 cells := r.cells
 sdom := r.sdom
 sok := fun _ q => .inl q
 sloc := r.sloc
 scell := r.scell
 live := r.live
 clean := fun j y m d hy hj => let ⟨m', e⟩ := DB hj; r.clean j y m' d hy e
 hok := r.hok
 vars := fun j y t hy ht => by
  obtain ⟨u, hu, rfl⟩ := Fs ht
  obtain ⟨v, hv, tv⟩ := r.vars j y u hy hu
  refine ⟨v, hv, ?_⟩
  cases u with
  | sh d => exact tv
  | ow m d =>
   obtain ⟨a, e, n, o, _⟩ := tv
   exact ⟨a, e, n, o, fun q => by cases q⟩
 inj := fun j l y z m m' d d' v hy hz hj hl => let ⟨_, e⟩ := DB hj; let ⟨_, e'⟩ := DB hl; r.inj j l y z _ _ d d' v hy hz e e'
 dok := fun j y m ks ds hy hj => let ⟨m', e⟩ := DB hj; r.dok j y m' ks ds hy e
noncomputable def Uy (i : Nat) (t : AEnv → Res Bool) : AEnv → Res Bool := fun ρ => match ρ[i]? with
 | some (some (.ow true (.list ds))) => (match t (wk (ρ.set i (some (.sh (.list ds))))) with
  | .ok b _ => .ok b ρ
  | _ => .stuck)
 | _ => .stuck
theorem DZ {e : Expr} {t : AEnv → Res Bool} (hx : (Qf sc)[i]? = some x) (ht : Ju G k sc e t) : Ju G k sc e (Uy i t) := by
 intro cx ok ρ S s r Q E out
 cases hi : ρ[i]? with
 | none => simp only [Uy, hi] at out; exact out.elim
 | some o =>
  cases o with
  | none => simp only [Uy, hi] at out; exact out.elim
  | some u =>
   cases u with
   | sh d => simp only [Uy, hi] at out; exact out.elim
   | ow m d =>
    cases m with
    | false => simp only [Uy, hi] at out; exact out.elim
    | true =>
     cases d with
     | list ds =>
      simp only [Uy, hi] at out
      obtain ⟨v, hv, tv⟩ := r.vars i x _ hx hi
      obtain ⟨S', r', rv, x'⟩ := r.dropVar hx hi hv
      have q := ht (cx.base s.heap S') (ok.based r.base) _ S' s r'.weak
      cases hT : t (wk (ρ.set i (some (.sh (.list ds))))) with
      | stuck => rw [hT] at out; exact out.elim
      | exc C ρ₁ => rw [hT] at out; exact out.elim
      | ok b ρ₁ =>
       rw [hT] at out q
       refine q Q E ?_
       intro a h₁ t₁ S₁ r₁ j x₁ v₁
       exact out a h₁ t₁ S (r.kp r₁.keep r₁.base) j (r.ext_kp r₁.keep) fun _ => v₁ rfl
     | _ => simp only [Uy, hi] at out; exact out.elim
end
section
variable {G : Gd} {k : Nat} {cx : Cx} {sc : Scope} {ρ ρ' : AEnv} {i : Nat} {x : Str} {S : Addr → Prop}
theorem BA {v : Value} {d : D} {s : Shared} {Q : Unit → Shared → Prop} {E : Value → Shared → Prop} (ok : CxOk G cx sc k) (fn : FnCx G cx) (r : Rel G cx sc ρ S s.heap) (hx : (Qf sc)[i]? = some x) (hk : sc.names.lookup x = some .local) (rv : RV S s.heap v d)
  (fin : ∀ h' tk, Rel G cx sc (ρ.set i (some (.sh d))) S h' → Ext S s.heap S h' → (∀ y w, y ≠ x → Var cx.env s.heap y w → Var cx.env h' y w) → Q () { s with heap := h', toks := tk }) : wpAny G.M cx.A (storeName cx.env x v) Q E s := by
 have hkf : cx.env.scope.kind = .function := by rw [ok.hsc]; exact ok.hk
 have kd : ∀ y, cx.env.kindOf y = sc.names.lookup y := fun y => by unfold Env.kindOf; rw [ok.hsc]
 obtain ⟨m, hm⟩ := r.ns
 have hm0 := hm
 obtain ⟨oL, es, ep, eL, dL, _⟩ := hm0
 refine wpAny_storeName_local ((kd x).trans hk) hm (fun h' n' k => ?_) (by rw [hkf]; rfl)
 have n'' := n'
 obtain ⟨oL', es', ep', eL', dL', _⟩ := n''
 have cellsame : ∀ y c, cx.env.cells.lookup y = some c → ∀ w, s.heap.IsCell c w → h'.IsCell c w := fun y c q w n => n.sameBut k (fn.loc y c q)
 have vx : Var cx.env h' x v := .inl ⟨(kd x).trans hk, _, n', by simp⟩
 have go : ∀ y w, y ≠ x → Var cx.env s.heap y w → Var cx.env h' y w := fun y w hy q => by
  rcases q with ⟨a, m₁, b, c⟩ | ⟨a, c, b, d⟩
  ·refine .inl ⟨a, _, n', ?_⟩
   rw [if_neg hy, ← b.agree hm y]; exact c
  ·exact .inr ⟨a, c, b, cellsame y c b _ d⟩
 obtain ⟨r', x'⟩ := r.store (loc := cx.env.locals) (i := i) (x := x) (v := v) (t := .sh d) fn.bh ok.nodup hx eL (by rintro (⟨_, vs, n, q⟩ | ⟨vs, q⟩) <;> (rw [dL] at q; cases q)) (fun vs n q => by rw [dL] at q; cases q) r.sloc fn.lnew (.inl rfl) k
  ⟨oL', eL', fun _ => ⟨es', ep', dL'⟩⟩ ⟨_, n'⟩ (fun y c q => let ⟨w, n⟩ := r.cells y c q; ⟨w, cellsame y c q w n⟩) vx go
  (fun y w hy q => by
   rcases q with ⟨a, m₁, b, c⟩ | ⟨a, c, b, d⟩
   ·refine .inl ⟨a, m, hm, ?_⟩
    have := b.agree n' y
    rw [if_neg hy] at this
    rw [← this]; exact c
   ·obtain ⟨w₀, n₀⟩ := r.cells y c b
    exact .inr ⟨a, c, b, by rw [IsCell.inj d (cellsame y c b _ n₀)]; exact n₀⟩) (.inr ⟨d, rfl⟩) rv
 exact fin h' _ r' x' go
theorem OU (ok : CxOk G cx sc k) (fn : FnCx G cx) {E : Value → Shared → Prop} {es : List Expr} {xs : List Str} {is : List Nat} (h : Names sc es xs is) : (∀ x ∈ xs, sc.names.lookup x = some .local) → ∀ {vs : List Value} {ds : List D} {ρ ρ' : AEnv} {s : Shared} {Q : Unit → Shared → Prop}, Rel G cx sc ρ S s.heap → RVs S s.heap vs ds → Wg is ds ρ = some ρ' →
  (∀ h' tk, Rel G cx sc ρ' S h' → Ext S s.heap S h' → (∀ y w, y ∉ xs → Var cx.env s.heap y w → Var cx.env h' y w) → Q () { s with heap := h', toks := tk }) → wpAny G.M cx.A (assignInOrder ((assignEach es cx.env).map (·.2)) vs) Q E s := by
 induction h with
 | nil =>
  intro _ vs ds ρ ρ' s Q r q e fin
  cases q with
  | nil => cases e; exact wpAny_pure (fin s.heap s.toks r (Ext.refl ..) fun _ _ _ q => q)
  | cons _ _ => cases e
 | cons hx _ ih =>
  intro hn vs ds ρ ρ' s Q r q e fin
  cases q with
  | nil => cases e
  | cons q1 q2 =>
   refine assignInOrder_cons ?_
   show wpAny G.M cx.A (assign (.Name _ _) cx.env _) _ E s
   rw [PySem.assign_Name]
   refine wpAny_bind (wpAny_standAt (wpAny_bindName ?_))
   refine BA ok fn r hx (hn _ (.head _)) q1 fun h₁ t₁ r₁ x₁ f₁ => ?_
   refine ih (fun y hy => hn y (.tail _ hy)) (s := { s with heap := h₁, toks := t₁ }) r₁ (q2.ext x₁) e fun h₂ t₂ r₂ x₂ f₂ => ?_
   exact fin h₂ t₂ r₂ (x₁.trans x₂) fun y w hy q => f₂ y w (fun z => hy (.tail _ z)) (f₁ y w (fun z => hy (by rw [z]; exact .head _)) q)
set_option tactic.hygienic true in
theorem B2 {es : List Expr} {xs : List Str} {is : List Nat} {n : Nat} {p : Pos} {v : Value} {d : D} {s : Shared} {Q : Unit → Shared → Prop} {E : Value → Shared → Prop} (ok : CxOk G cx sc k) (fn : FnCx G cx) (h : Names sc es xs is) (hn : ∀ x ∈ xs, sc.names.lookup x = some .local) (r : Rel G cx sc ρ S s.heap) (q : RV S s.heap v d) (e : Xg is d ρ = some ρ')
  (fin : ∀ h' tk, Rel G cx sc ρ' S h' → Ext S s.heap S h' → (∀ y w, y ∉ xs → Var cx.env s.heap y w → Var cx.env h' y w) → Q () { s with heap := h', toks := tk }) : wpAny G.M cx.A (assign (.Tuple es n p) cx.env v) Q E s := by
 cases d with
 | tup ds =>
  obtain ⟨hl, e⟩ := ifs (show (if ds.length = is.length then Wg is ds ρ else none) = some ρ' from e)
  cases q with
  | tup e1 e2 e3 q =>
   rename_i a o vs m
   rw [assign_Tuple]
   refine wpAny_bind (wpAny_standAt ?_)
   unfold unpack
   obtain ⟨l, f⟩ := h.each cx.env
   have hsz : vs.size = ds.length := by rw [← q.length]; simp
   rw [l, f, ← hl, ← hsz]
   refine wpAny_bind (wpAny_holding (Uc r.hOk ⟨o, e1, e2, m, e3⟩ fun h' hk => ?_))
   obtain ⟨r', x', v'⟩ := r.keepsE hk
   refine OU ok fn h hn (s := { s with heap := h' }) r' (q.ext x') e fun h₂ t₂ r₂ x₂ f₂ => ?_
   exact fin h₂ t₂ r₂ (x'.trans x₂) fun y w hy z => f₂ y w hy (v' y w z)
 | _ => cases e
theorem CV {is : List Nat} {j : Nat} (hj : j ∉ is) : ∀ {ds : List D} {ρ ρ' : AEnv}, Wg is ds ρ = some ρ' → ρ'[j]? = ρ[j]? := by
 induction is with
 | nil =>
  intro ds ρ ρ' e
  cases ds with
  | nil => cases e; rfl
  | cons _ _ => cases e
 | cons i is ih =>
  intro ds ρ ρ' e
  cases ds with
  | nil => cases e
  | cons d ds => exact (ih (fun z => hj (.tail _ z)) e).trans (List.getElem?_set_ne fun z => hj (by rw [← z]; exact .head _))
theorem CY {is : List Nat} {j : Nat} (hj : j ∉ is) {d : D} (e : Xg is d ρ = some ρ') : ρ'[j]? = ρ[j]? := by
 cases d with
 | tup ds => exact CV hj (ifs (show (if ds.length = is.length then Wg is ds ρ else none) = some ρ' from e)).2
 | _ => cases e
end
noncomputable def W1 (b : D → AEnv → Option AEnv) (t : AEnv → Res Bool) : List D → AEnv → Option AEnv
 | [], ρ => some ρ
 | d :: ds, ρ => match b d ρ with
  | none => none
  | some ρ₁ => (match t (wk ρ₁) with
   | .ok false _ => W1 b t ds ρ₁
   | _ => none)
noncomputable def U2 (i : Nat) (b : D → AEnv → Option AEnv) (t : AEnv → Res Bool) : AEnv → Res Fl := fun ρ => match ρ[i]? with
 | some (some (.ow _ (.list ds))) => (match W1 b t ds ρ with
  | some ρ' => .ok .next ρ'
  | none => .stuck)
 | _ => .stuck
noncomputable def IH (I a : Addr) (m : Nat) (h : Heap) : Prop := ∃ o, h.get? I = some o ∧ o.cls = .type "list_iterator" ∧ o.data = .fields #[.ref a, .int m 0]
inductive OInv (G : Gd) (cx : Cx) (sc : Scope) (i : Nat) (x : Str) (I a : Addr) (S : Addr → Prop) (P : List D → AEnv → Prop) (ds : List D) (s : Shared) : Nat → Shared → Prop
 | mk {m : Nat} {c : Bool} {ρ : AEnv} {h' : Heap} {tk : Nat} : m ≤ ds.length → Rel G cx sc ρ S h' → ρ[i]? = some (some (.ow c (.list ds))) → Var cx.env h' x (.ref a) → IH I a m h' → Ext S s.heap S h' → P (ds.drop m) ρ → OInv G cx sc i x I a S P ds s (ds.length + 1 - m) { s with heap := h', toks := tk }
section
variable {G : Gd} {k : Nat} {sc : Scope}
set_option tactic.hygienic true in
theorem Ei {es : List Expr} {xs : List Str} {is : List Nat} {n i : Nat} {x : Str} {p xp ip pos : Pos} {test : Expr} {thn : List Stmt} {t : AEnv → Res Bool} (h : Names sc es xs is) (hn : ∀ x ∈ xs, sc.names.lookup x = some .local) (hx : (Qf sc)[i]? = some x) (hxs : x ∉ xs) (his : i ∉ is)
  (hd : (x == ("__debug__" : Str)) = false) (hc : (x == ("__classdict__" : Str)) = false) (ht : Ju G k sc test t) : YY G k sc (.For (.Tuple es n p) (.Name x xp) [.If test thn [] ip] [] pos) (U2 i (Xg is) t) := by
 intro cx ok fn ρ S s r Q E out
 obtain ⟨c, ds, ρ', hi, hF, out⟩ : ∃ c ds ρ', ρ[i]? = some (some (.ow c (.list ds))) ∧ W1 (Xg is) t ds ρ = some ρ' ∧ Out G cx sc false S s (fun S' h' a b => FlJ cx S' h' a b) Q E (.ok .next ρ') := by
  cases hi : ρ[i]? with
  | none => simp only [U2, hi] at out; exact out.elim
  | some o =>
   cases o with
   | none => simp only [U2, hi] at out; exact out.elim
   | some u =>
    cases u with
    | sh d => simp only [U2, hi] at out; exact out.elim
    | ow m d =>
     cases d with
     | list ds =>
      simp only [U2, hi] at out
      cases hF : W1 (Xg is) t ds ρ with
      | none => rw [hF] at out; exact out.elim
      | some ρ' => rw [hF] at out; exact ⟨m, ds, ρ', rfl, hF, out⟩
     | _ => simp only [U2, hi] at out; exact out.elim
 refine wpAny_For ?_ (fun _ => rfl)
 obtain ⟨v, hv, tv⟩ := r.vars i x _ hx hi
 obtain ⟨a, rfl, ns, ow, w⟩ := tv
 refine wpAny_Name (Xr (ok.mono (Nat.zero_le _)) hv hc rfl ?_) hd
 obtain ⟨vs, n₀, e₀, rv₀⟩ := (show XM S s.heap a (.list ds) from ow)
 refine wpAny_pyIter_list ⟨_, e₀, rfl, n₀, rfl⟩ ?_
 have hne : a ≠ s.heap.objs.size := fun e => by rw [e, Heap.get?_none_of_le (Nat.le_refl _)] at e₀; cases e₀
 have nw : ∀ b ∈ [s.heap.objs.size], s.heap.get? b = none := fun b hb => by rw [List.mem_singleton.mp hb]; exact Heap.get?_none_of_le (Nat.le_refl _)
 have new : ∀ b ∈ [s.heap.objs.size], cx.h₀.get? b = none ∧ G.B.get? b = none := fun b hb => ⟨r.keep.none (nw b hb), by
  cases z : G.B.get? b with
  | none => rfl
  | some o => have := r.base b o z; rw [nw b hb] at this; cases this⟩
 have hni := C9 r.hOk nw
 obtain ⟨Inv, hI, hC⟩ : ∃ Inv : Nat → Shared → Prop, (∀ m s', OInv G cx sc i x s.heap.objs.size a S (fun ds ρ => W1 (Xg is) t ds ρ = some ρ') ds s m s' → Inv m s') ∧ ∀ m s', Inv m s' → OInv G cx sc i x s.heap.objs.size a S (fun ds ρ => W1 (Xg is) t ds ρ = some ρ') ds s m s' := ⟨_, fun _ _ z => z, fun _ _ z => z⟩
 refine codeAny_forLoop_any Inv ?_ (ds.length + 1) (hI _ _ (.mk (m := 0) (tk := s.toks) (Nat.zero_le _) (Rel.push r _) hi (hv.kp (Xi _)) ⟨_, Heap.get?_push_size _ rfl, rfl, rfl⟩ (QN _) (by rw [List.drop_zero]; exact hF)))
 generalize (notedBy G.M cx.A cx.env fun e s' => cameBackBy G.M cx.A cx.env E e s') = EN
 intro n s' hinv
 cases hC n s' hinv with
 | mk hm r' hi' hv' it' x' hP =>
 rename_i m c' ρm h' tk
 obtain ⟨o, a1, a2, a3⟩ := it'
 have sh : ∀ b ∈ [s.heap.objs.size], ∃ o, h'.get? b = some o ∧ XJ o := fun b hb => ⟨o, by rw [List.mem_singleton.mp hb]; exact a1, _, _, a2, by decide, by decide, by decide, a3⟩
 obtain ⟨v', hv'', tv'⟩ := r'.vars i x _ hx hi'
 cases Var.inj hv'' hv'
 obtain ⟨a', ea, ns', ow', w'⟩ := tv'
 cases ea
 obtain ⟨vs', n', e', rv'⟩ := (show XM S h' a (.list ds) from ow')
 by_cases hlt : m < ds.length
 ·have hdm : ds[m]? = some ds[m] := List.getElem?_eq_getElem hlt
  rw [J9 hdm, W1] at hP
  obtain ⟨u, hu, ru⟩ := rv'.get hdm
  cases hb : Xg is ds[m] ρm with
  | none => rw [hb] at hP; cases hP
  | some ρ₂ =>
   rw [hb] at hP
   replace hP : (match t (wk ρ₂) with | .ok false _ => W1 (Xg is) t (ds.drop (m + 1)) ρ₂ | _ => none) = some ρ' := hP
   refine wpAny_pyNext_list_item (s := { s with heap := h', toks := tk }) ⟨o, a1, a2, a3⟩ ⟨_, e', rfl, n', rfl⟩ (by simpa using hu) fun h₂ it₂ k₂ => ?_
   obtain ⟨o', c1, c2, c3⟩ := it₂
   have kb := KB.of_sameBut k₂ ⟨o', c1⟩
   obtain ⟨r₂, v₂⟩ := r'.aside sh new kb
   have x₂ := x'.aside nw kb
   refine YU (s := { s with heap := h₂, toks := tk }) c1 c2 c3 (by decide) ?_
   refine B2 (s := { s with heap := h₂, toks := tk }) ok fn.toFnCx h hn r₂ (ru.aside sh kb) hb fun h₃ t₃ r₃ x₃ f₃ => ?_
   rw [execs_cons]
   refine wpAny_bind ?_
   rw [exec_If]
   refine wpAny_bind (wpAny_standAt (wpAny_bind (ht (cx.base h₃ S) (ok.based r₃.base) (wk ρ₂) S { s with heap := h₃, toks := t₃ } r₃.weak _ _ ?_)))
   cases htv : t (wk ρ₂) with
   | stuck => rw [htv] at hP; cases hP
   | exc D ρc => rw [htv] at hP; cases hP
   | ok cc ρc =>
    rw [htv] at hP
    cases cc with
    | true => cases hP
    | false =>
     intro b h₄ t₄ S₄ r₄ jb x₄ v₄
     subst jb
     show wpAny G.M cx.A (execs [] cx.env) _ EN _
     refine wpAny_execs_nil (env := cx.env) ?_
     refine wpAny_execs_nil (env := cx.env) ?_
     have vx₃ : Var cx.env h₃ x (.ref a) := f₃ x _ hxs (v₂ _ _ hv')
     exact ⟨ds.length + 1 - (m + 1), by omega, hI _ _ (.mk (m := m + 1) (tk := t₄) hlt (r₃.kp r₄.keep r₄.base) ((CY his hb).trans hi') (vx₃.kp r₄.keep) ⟨o', r₄.keep.exact (x₃.exact c1 (.inr (.inr ⟨_, c3⟩)) (.fields c3)) (.fields c3), c2, c3⟩ ((x₂.trans x₃).trans (r₃.ext_kp r₄.keep)) hP)⟩
 ·have hie : m = ds.length := Nat.le_antisymm hm (Nat.le_of_not_lt hlt)
  subst hie
  rw [List.drop_length, W1] at hP
  cases hP
  refine Jf (s := { s with heap := h', toks := tk }) r'.hOk a1 a2 a3 e' rfl (by have := rv'.length; simp at this; simp [this]) (fun v e => hni v e _ (.head _)) fun h₂ kb => ?_
  obtain ⟨r₂, v₂⟩ := r'.aside sh new kb
  exact wpAny_execs_nil (out .next h₂ _ S r₂ trivial (x'.aside nw kb) fun q => by cases q)
end
section
variable {G : Gd} {k : Nat} {sc : Scope} {x : Str} {p xp ip pos : Pos}
theorem Zi {st : Stmt} : YY G k sc st (fun _ => .stuck) := fun _ _ _ _ _ _ _ _ _ out => out.elim
theorem Iq (g : Gr G) (i : Nat) {gp px : Pos} (hq : autoParam (G.quiet = true) aR._auto_1) (e : autoParam (W.nsIn G.K mainGlobals ("sorted" : Str) = some none) aK._auto_1) (hg : autoParam (sc.names.lookup ("sorted" : Str) = some .globalImplicit) aK._auto_1) (hx : autoParam ((Qf sc)[i]? = some x) aK._auto_1) (hd : autoParam ((x == ("__debug__" : Str)) = false) aK._auto_1) (hc : autoParam ((x == ("__classdict__" : Str)) = false) aK._auto_1) : Sim G k sc (.Call (.Name "sorted" gp) [.Name x px] [] pos) (JL i) :=
 BZ hq (gB g (.builtin "sorted") e (by kernel_rfl) (by kernel_rfl) rfl hg (by kernel_rfl)) hx hd hc
theorem H7 {e : Expr} {t : AEnv → Res Bool} (i : Nat) (ht : Ju G k sc e t) (hx : autoParam ((Qf sc)[i]? = some x) aK._auto_1) : Ju G k sc e (Uy i t) := DZ hx ht
theorem Im {es : List Expr} {xs : List Str} {is : List Nat} {n : Nat} {test : Expr} {thn : List Stmt} {t : AEnv → Res Bool} (i : Nat) (h : Names sc es xs is) (ht : Ju G k sc test t) (hn : autoParam ((xs.all fun x => sc.names.lookup x == some .local) = true) aK._auto_1) (hx : autoParam ((Qf sc)[i]? = some x) aK._auto_1) (hxs : autoParam (xs.contains x = false) aK._auto_1) (his : autoParam (is.contains i = false) aK._auto_1)
  (hd : autoParam ((x == ("__debug__" : Str)) = false) aK._auto_1) (hc : autoParam ((x == ("__classdict__" : Str)) = false) aK._auto_1) : YY G k sc (.For (.Tuple es n p) (.Name x xp) [.If test thn [] ip] [] pos) (U2 i (Xg is) t) :=
 Ei h (fun y hy => eq_of_beq (List.all_eq_true.mp hn y hy)) hx (fun z => by rw [List.contains_iff_mem.mpr z] at hxs; cases hxs) (fun z => by rw [List.contains_iff_mem.mpr z] at his; cases his) hd hc ht
end
end Mine
end

section
namespace Mine
open PySem PySem.W PyProof.Rows
theorem U6 {R : WRecords} : ∀ {xs : List WData}, WShape.hasItems R xs .int = true → ∃ ns : List Int, xs = ns.map .int
 | [], _ => ⟨[], rfl⟩
 | x :: xs, h => by
  rw [WShape.hasItems, Bool.and_eq_true_iff] at h
  obtain ⟨ns, rfl⟩ := U6 h.2
  cases x with
  | int i => exact ⟨i :: ns, rfl⟩
  | _ => exact Bool.noConfusion (show false = true from h.1)
theorem FN {l : OpenLaw} {args : List WData} {n : Nat} (hm : l.most = some n) (hb : l.bound = none) (h : l.row.toRowW.claim.pre args = true) : ∃ ns : List Int, args = [.list (ns.map .int)] ∧ ns.length ≤ n := by
 obtain ⟨h1, h2⟩ := pre_splitW h
 have e1 : l.row.toRowW.args = [.list .int] := rfl
 rw [e1] at h1
 obtain ⟨d, r, rfl, hd, hr⟩ := hasAllW_cons h1
 have hr0 : r = [] := by
  cases r with
  | nil => rfl
  | cons a b => exact Bool.noConfusion (show false = true from hr)
 subst hr0
 have hlist : ∃ xs, d = .list xs ∧ WShape.hasItems l.row.toRowW.records xs .int = true := by
  cases d with
  | list xs =>
   have h' : (WShape.hasItems l.row.toRowW.records xs .int || false) = true := hd
   rw [Bool.or_false] at h'
   exact ⟨xs, rfl, h'⟩
  | _ => exact Bool.noConfusion (show false = true from hd)
 obtain ⟨xs, rfl, hx⟩ := hlist
 obtain ⟨ns, rfl⟩ := U6 hx
 refine ⟨ns, rfl, ?_⟩
 have e2 : l.row.toRowW.pre = .and (.not (.lt (.lit (.int n)) (.len (.arg 0)))) (.lit (.bool true)) := by
  show l.pre = _
  unfold OpenLaw.pre
  rw [hm, hb]
 rw [e2] at h2
 have h3 := (holds_andW h2).1
 by_cases hlt : (n : Int) < (ns.map WData.int).length
 ·exfalso
  have key : WTm.holds l.row.toRowW.records (.not (.lt (.lit (.int n)) (.len (.arg 0)))) { args := [.list (ns.map .int)] } = (match (some (WData.bool (!(decide ((n : Int) < (ns.map WData.int).length)))) : Option WData) with | some (.bool true) => true | _ => false) := rfl
  rw [decide_eq_true hlt] at key
  exact Bool.noConfusion (key.symm.trans h3)
 ·rw [List.length_map] at hlt; (simpa using hlt)
theorem CN {R : WRecords} {cl : Str → Option Addr} {S : Addr → Prop} {h : Heap} {ns : List Int} : ∀ {vs : List Value} {as : List Addr}, ReadsAllW R cl h vs (ns.map .int) as → RVs S h vs (ns.map .int) ∧ as = [] := by
 induction ns with
 | nil => intro vs as r; cases r; exact ⟨.nil, rfl⟩
 | cons n ns ih =>
  intro vs as r
  cases r with
  | cons r1 r2 =>
   obtain ⟨q, rfl⟩ := ih r2
   cases r1
   exact ⟨.cons (.int _ _) q, rfl⟩
theorem GI {l : OpenLaw} {w : World} {s₁ : Shared} {mg mb : Str → Option Value} {K : Frag} {a : Addr} {k : Nat} {F : List D → FOut} {args : List WData} {vals : List Value} {as : List Addr} {R : WRecords} {cl cl' : Str → Option Addr} {mean : ExcName → Option Value} (hF : ZA ⟨l.row.toRowW.prog, w, s₁.heap, mg, mb, K, true⟩ k (.ref a) F) (hk : k ≤ 500) (hg : s₁.gens = #[])
  {n : Nat} (hm : l.most = some n) (hb : l.bound = none) (hpre : l.row.toRowW.claim.pre args = true) (hrd : ReadsAllW R cl s₁.heap vals args as) (hwl : WellAll w.params s₁.heap vals args) (hlaw : ∀ ns : List Int, ns.length ≤ n → F [.list (ns.map .int)] = .ok (.sh (.bool true))) :
  wpAny (model l.row.toRowW.prog w) callerA (call (.ref a) vals) (fun v s' => GoodWG l.row.toRowW.claim cl' mean args s₁ (.ok (.ret v)) s') (fun e s' => GoodWG l.row.toRowW.claim cl' mean args s₁ (.error e) s') s₁ := by
 obtain ⟨ns, rfl, hn⟩ := FN hm hb hpre
 cases hrd with
 | cons r1 r2 =>
  cases r2
  obtain ⟨b, vs, as', rfl, il, ri, _⟩ := readsW_list_inv r1
  obtain ⟨o, h1, h2, m, h3⟩ := il
  have hdn : o.dict = none ∧ o.slots = #[] := by
   cases hwl with
   | cons q _ => cases q with | list e _ => rw [h1] at e; cases e; exact ⟨rfl, rfl⟩
  obtain ⟨q, _⟩ := CN (S := fun x => x = b) ri
  refine wpAny_call ?_
  refine hF callerA [] (fun x => x = b) s₁ [.ref b] [.list (ns.map .int)] ?_ rfl (fun _ => rfl) (fun v e => by cases e) (fun env he => by cases he) (fun _ _ e => e) (fun x hx => ⟨o, by rw [hx]; exact h1⟩) (.cons (.list rfl h1 ⟨h2, hdn⟩ h3 q) .nil) _ ?_
  ·constructor
   ·show 1 + claimMargin + k ≤ 900
    have : claimMargin = 300 := rfl
    exact Nat.le_trans (Nat.add_le_add_left hk _) (by decide)
   ·show 4 + 8 * k ≤ 9000
    lia
  ·rw [hlaw ns hn]
   intro v h' tk S' kp hB _ _ _ ret
   cases ret
   refine ⟨.inl ⟨.bool true, .bool true, [], rfl, fun _ => rfl, .bool true, ?_, fun _ => ⟨.nil, fun _ hx => by cases hx⟩⟩, .of_keep hB, rfl, ?_⟩
   ·show (WShape.has l.row.toRowW.records (.bool true) .bool && WTm.holds l.row.toRowW.records (.eq .res (.lit (.bool true))) { args := [.list (ns.map .int)], res := some (.bool true), after := [.list (ns.map .int)] }) = true
    have e1 : same (WData.bool true) (WData.bool true) = true := by first | rfl | exact same_self _ | decide | simp [same]
    have e2 : WTm.holds l.row.toRowW.records (.eq .res (.lit (.bool true))) { args := [.list (ns.map .int)], res := some (.bool true), after := [.list (ns.map .int)] } = (match (some (WData.bool (same (WData.bool true) (WData.bool true))) : Option WData) with | some (.bool true) => true | _ => false) := rfl
    rw [e1] at e2
    rw [e2]; rfl
   ·show AllBare s₁.gens
    rw [hg]
    exact .of_eq rfl
end Mine
end

section
namespace Mine
open PySem
theorem OO {b : D → AEnv → Option AEnv} {t : AEnv → Res Bool} {f : AEnv → Res T} {ρ₀ : AEnv} {q : D → Bool} {g : D → D} : ∀ (ds acc : List D), (∀ d ∈ ds, ∃ ρ₁ ρ₂, b d ρ₀ = some ρ₁ ∧ t ρ₁ = .ok (q d) ρ₂ ∧ (q d = true → ∃ v ρ₃, f ρ₂ = .ok v ρ₃ ∧ v.val = g d)) → acc.length + ds.length ≤ 1000000 → JA b t f ρ₀ ds acc = some (acc ++ (ds.filter q).map g) := by
 intro ds
 induction ds with
 | nil => intro acc _ _; exact congrArg some (List.append_nil acc).symm
 | cons d ds ih =>
  intro acc h hl
  obtain ⟨ρ₁, ρ₂, h1, h2, h3⟩ := h d (.head _)
  rw [List.length_cons] at hl
  have ih := fun acc' => ih acc' fun e he => h e (.tail _ he)
  conv => lhs; whnf
  rw [h1]
  conv => lhs; whnf
  rw [h2]
  cases hq : q d with
  | false =>
   rw [List.filter_cons_of_neg (by rw [hq]; decide)]
   exact ih acc (by exact omL hl)
  | true =>
   obtain ⟨v, ρ₃, h4, h5⟩ := h3 hq
   rw [List.filter_cons_of_pos hq, List.map_cons, ← h5]
   conv => lhs; whnf
   rw [h4]
   refine (if_pos (by exact omP hl)).trans ((ih _ (by rw [List.length_append]; exact Nat.le_trans (Nat.le_of_eq (Nat.add_assoc _ 1 _)) (by rw [Nat.add_comm 1]; exact hl))).trans ?_)
   rw [List.append_assoc]; rfl
theorem UP {b : D → AEnv → Option AEnv} {f : AEnv → Res T} {ρ₀ : AEnv} {g : D → D} (ds : List D) (h : ∀ d ∈ ds, ∃ ρ₁ v ρ₃, b d ρ₀ = some ρ₁ ∧ f ρ₁ = .ok v ρ₃ ∧ v.val = g d) (hl : ds.length ≤ 1000000) : JA b Uj f ρ₀ ds [] = some (ds.map g) := by
 have := OO (b := b) (t := Uj) (f := f) (ρ₀ := ρ₀) (q := fun _ => true) (g := g) ds [] (fun d hd => by
  obtain ⟨ρ₁, v, ρ₃, h1, h2, h3⟩ := h d hd
  exact ⟨ρ₁, ρ₁, h1, rfl, fun _ => ⟨v, ρ₃, h2, h3⟩⟩) (by simpa using hl)
 rw [this, List.nil_append, List.filter_eq_self.mpr fun _ _ => rfl]
noncomputable def iL (ns : List Int) : List D := ns.map .int
noncomputable def nL (ns : List Nat) : List D := ns.map fun (n : Nat) => D.int n
noncomputable def isW : D → Bool
 | .int _ => true
 | _ => false
noncomputable def GJ : D → Bool
 | .range .. => false
 | .exc _ => false
 | .glob _ => false
 | .dict .. => false
 | .obj .. => false
 | _ => true
theorem ED (ns : List Int) : J4 (iL ns) = some ns := by
 induction ns with
 | nil => rfl
 | cons n ns ih => exact congrArg (Option.map (n :: ·)) ih
theorem CF (bs : List Bool) : UK (bs.map .bool) = some bs := by
 induction bs with
 | nil => rfl
 | cons b bs ih => exact congrArg (Option.map (b :: ·)) ih
theorem JS {d : D} {ds : List D} {p : PyData} {ps : List PyData} (h1 : Wy d = some p) (h2 : Ys ds = some ps) : Ys (d :: ds) = some (p :: ps) := by
 conv => lhs; whnf
 rw [h1, h2]
theorem Ul (ns : List Int) : Ys (iL ns) = some (ns.map .int) := by
 induction ns with
 | nil => rfl
 | cons n ns ih => exact JS rfl ih
theorem DY {ds : List D} {ps : List PyData} (h : Ys ds = some ps) : Wy (.tup ds) = some (.tuple ps) := congrArg (Option.map PyData.tuple) h
theorem Kf {ds : List D} {ps : List PyData} (h : Ys ds = some ps) : Wy (.list ds) = some (.list ps) := congrArg (Option.map PyData.list) h
theorem UF (a : List Int) : ∀ b : List Int, PyData.eqvAll (a.map .int) (b.map .int) = decide (a = b) := by
 induction a with
 | nil =>
  intro b
  cases b with
  | nil => rfl
  | cons y b => rfl
 | cons x a ih =>
  intro b
  cases b with
  | nil => rfl
  | cons y b =>
   show ((x == y) && PyData.eqvAll (a.map .int) (b.map .int)) = _
   rw [ih]
   by_cases h : x = y
   ·subst h
    by_cases h2 : a = b
    ·subst h2; rw [decide_eq_true rfl, decide_eq_true rfl, Bool.and_true]; exact beq_self_eq_true x
    ·rw [decide_eq_false h2, decide_eq_false (fun q => h2 (List.cons.inj q).2), Bool.and_false]
   ·rw [decide_eq_false (fun q => h (List.cons.inj q).1), beq_eq_false_iff_ne.mpr h, Bool.false_and]
theorem Kv (a : List Int) : PyData.canLayAll0 (a.map .int) = true := by
 induction a with
 | nil => rfl
 | cons x a ih => exact ih
theorem J0 (a : List Int) : PyData.depthAll (a.map .int) ≤ 1 := by
 induction a with
 | nil => exact Nat.zero_le _
 | cons x a ih => exact Nat.max_le.mpr ⟨Nat.zero_le _, ih⟩
theorem Kh (a : List Int) : SeqAt.shaped (.list (a.map .int)) = true :=
 Bool.and_eq_true_iff.mpr ⟨Kv a, decide_eq_true (Nat.le_trans (Nat.add_le_add_right (J0 a) 1) (by decide))⟩
theorem Wu (a : List Int) : SeqAt.shaped (.tuple (a.map .int)) = true :=
 Bool.and_eq_true_iff.mpr ⟨Kv a, decide_eq_true (Nat.le_trans (Nat.add_le_add_right (J0 a) 1) (by decide))⟩
noncomputable def eqB (a b : List Int) : Bool := decide (a = b)
theorem Y6 {a b : List Int} : eqB a b = true ↔ a = b := decide_eq_true_iff
theorem W8 {a b : List Int} : eqB a b = false ↔ a ≠ b := decide_eq_false_iff_not
noncomputable def eqZ (a b : Int) : Bool := decide (a = b)
theorem WI {a b : Int} : eqZ a b = true ↔ a = b := decide_eq_true_iff
theorem VM {a b : Int} : eqZ a b = false ↔ a ≠ b := decide_eq_false_iff_not
theorem Of {x y : D} {p q : PyData} {b : Bool} (h1 : Wy x = some p) (h2 : Wy y = some q) (h3 : SeqAt.shaped p = true) (h4 : SeqAt.shaped q = true) (h5 : PyData.eqv p q = b) : eqD x y = some b := by
 conv => lhs; whnf
 rw [h1, h2]
 conv => lhs; whnf
 rw [h3, h4, ← h5]; rfl
theorem V9 {x y : D} {b : Bool} (h : eqD x y = some b) : eqI x y = some (.sh (.bool b)) := congrArg (Option.map fun b => T.sh (.bool b)) h
theorem CL {x y : D} {b : Bool} (h : eqD x y = some b) : neI x y = some (.sh (.bool !b)) := congrArg (Option.map fun b => T.sh (.bool !b)) h
theorem EH (a b : List Int) : eqD (.list (iL a)) (.list (iL b)) = some (eqB a b) := Of (Kf (Ul a)) (Kf (Ul b)) (Kh a) (Kh b) (UF a b)
theorem BU (a b : List Int) : eqD (.tup (iL a)) (.tup (iL b)) = some (eqB a b) := Of (DY (Ul a)) (DY (Ul b)) (Wu a) (Wu b) (UF a b)
theorem BN (a b : List Int) : eqI (.list (iL a)) (.list (iL b)) = some (.sh (.bool (eqB a b))) := V9 (EH a b)
theorem VS (a b : List Int) : eqI (.tup (iL a)) (.tup (iL b)) = some (.sh (.bool (eqB a b))) := V9 (BU a b)
theorem Bn (a b : List Int) : neI (.tup (iL a)) (.tup (iL b)) = some (.sh (.bool !(eqB a b))) := CL (BU a b)
theorem Gm (a b : Int) : (a == b) = eqZ a b := by
 by_cases h : a = b
 ·rw [WI.mpr h]; exact beq_iff_eq.mpr h
 ·rw [VM.mpr h]; exact beq_eq_false_iff_ne.mpr h
theorem DM (a b : Int) : eqD (.int a) (.int b) = some (eqZ a b) := Of rfl rfl rfl rfl (Gm a b)
theorem GG (a b : Int) : eqI (.int a) (.int b) = some (.sh (.bool (eqZ a b))) := V9 (DM a b)
noncomputable def rng (n : Nat) : List Int := (List.range n).map fun (i : Nat) => (i : Int)
theorem Yb (n : Nat) : (rng n).length = n := by simp [rng]
theorem We (n : Nat) : Un 0 n 1 = iL (rng n) := by
 unfold Un W2 iL rng
 rw [rangeSize_one]
 have : (if (0 : Int) < n then (n : Int) - 0 else 0).toNat = n := by split <;> omega
 rw [this]
 simp
theorem JU (n : Nat) (h : n ≤ 1000000) : Zt 0 n 1 = true := by
 unfold Zt
 rw [small_one (by exact Int.ofNat_nonneg _) (by exact Int.ofNat_nonneg _) (by exact Int.ofNat_nonneg _) (by exact Int.ofNat_lt.mpr (Nat.lt_of_le_of_lt h (by decide))), rangeSize_one]
 simp only [Bool.true_and, Bool.and_eq_true, decide_eq_true_eq]
 constructor <;> split <;> omega
theorem CU (ns : List Int) : (Uo ns).Perm ns := List.mergeSort_perm ns _
theorem Ds (n : Nat) : (rng n).Pairwise (· ≤ ·) := by
 unfold rng
 rw [List.pairwise_map]
 exact (List.pairwise_lt_range (n := n)).imp fun h => by exact Int.ofNat_le.mpr (Nat.le_of_lt h)
theorem EO {ns : List Int} {n : Nat} : Uo ns = rng n ↔ ns.Perm (rng n) := by
 constructor
 ·intro h; rw [← h]; exact (CU ns).symm
 ·intro h; exact (UH h.symm (Ds n)).symm
section
variable {f g : AEnv → Res Fl} {t : AEnv → Res Bool} {e : AEnv → Res T} {ρ ρ₁ : AEnv} {v : T} {C : PySem.Addr} {i : Nat}
end
set_option autoImplicit true
set_option relaxedAutoImplicit true
theorem KL {α β : Type} {o : Option α} {k : α → Res β} {a : α} (h : o = some a) : ob o k = k a := by subst h; rfl
theorem G4 {α β : Type} {r : Res α} {g : α → AEnv → Res β} {a : α} {ρ : AEnv} (h : r = .ok a ρ) : r.bind g = g a ρ := by subst h; rfl
noncomputable def Ir (r : Res T) : Res Bv := Qc (fun _ => r) []
theorem IW (h : T.val t = d) : Ir (.ok t ρ) = .ok (.val d) ρ := by subst h; rfl
noncomputable def H8 (F : D → Option T) (r : Res Bv) : Res T := Bs F (fun _ => r) []
theorem IX (h : Bv.get ρ a = some x) (h2 : F x = some t) : H8 F (.ok a ρ) = .ok t ρ := by conv => lhs; whnf; rw [h]; whnf; rw [h2]
noncomputable def GA (F : D → D → Option T) (a : Bv) (r : Res Bv) : Res T := Qr F (fun ρ => .ok a ρ) (fun _ => r) []
theorem IY (h : Bv.get ρ a = some x) (h2 : Bv.get ρ b = some y) (h3 : F x y = some t) : GA F a (.ok b ρ) = .ok t ρ := by conv => lhs; whnf; rw [h, h2]; whnf; rw [h3]
noncomputable def Ia (F : D → D → Option T) (g : AEnv → Res Bv) (r : Res Bv) : Res T := Qr F (fun _ => r) g []
theorem IZ (h : g ρ = r) (h2 : GA F a r = rT) : Ia F g (.ok a ρ) = rT := by subst h; exact h2
noncomputable def H4 (F : List D → Option T) (r : Res (List Bv)) : Res T := QX F (fun _ => r) []
theorem I0 (h : XN ρ bs = some ds) (h2 : F ds = some t) : H4 F (.ok bs ρ) = .ok t ρ := by conv => lhs; whnf; rw [h]; whnf; rw [h2]
noncomputable def Hh (F : List D → FOut) (r : Res (List Bv)) : Res T := Qy F (fun _ => r) []
theorem I1 {o : FOut} (h : XN ρ bs = some ds) (h2 : F ds = o) (h3 : Yl bs ρ o = rT) : Hh F (.ok bs ρ) = rT := by
 subst h2; subst h3; conv => lhs; whnf; rw [h]
noncomputable def CQ (b : Bv) (r : Res (List Bv)) : Res (List Bv) := Qb (fun ρ => .ok b ρ) (fun _ => r) []
theorem I2 : CQ b (.ok bs ρ) = .ok (b :: bs) ρ := rfl
noncomputable def Fp (g : AEnv → Res (List Bv)) (r : Res Bv) : Res (List Bv) := Qb (fun _ => r) g []
theorem I3 (h : g ρ = rL) (h2 : CQ b rL = rL') : Fp g (.ok b ρ) = rL' := by subst h; exact h2
noncomputable def Hk (d : D) (r : Res (List D)) : Res (List D) := QH (fun ρ => .ok (.sh d) ρ) (fun _ => r) []
theorem I4 : Hk d (.ok ds ρ) = .ok (d :: ds) ρ := rfl
noncomputable def Ho (g : AEnv → Res (List D)) (r : Res T) : Res (List D) := QH (fun _ => r) g []
theorem I5 (h : T.val t = d) (h1 : g ρ = rD) (h2 : Hk d rD = rD') : Ho g (.ok t ρ) = rD' := by subst h; subst h1; exact h2
noncomputable def H9 (r : Res (List D)) : Res T := YL (fun _ => r) []
theorem I6 (h : List.length ds ≤ 1000000) : H9 (.ok ds ρ) = .ok (.sh (.tup ds)) ρ := if_pos h
noncomputable def H6 (r : Res (List D)) : Res T := Uq (fun _ => r) []
theorem I7 (h : List.length ds ≤ 1000000) : H6 (.ok ds ρ) = .ok (.ow true (.list ds)) ρ := if_pos h
noncomputable def E0 (r : Res Bv) : Res Bool := Q5 (fun _ => r) []
theorem I8 (h : Bv.get ρ a = some (.bool c)) : E0 (.ok a ρ) = .ok c ρ := by
 conv => lhs; whnf; rw [h]
 rfl
noncomputable def Hr (r : Res Bool) : Res Bool := ZH (fun _ => r) []
theorem I9 : Hr (.ok true ρ) = .ok false ρ := rfl
theorem La : Hr (.ok false ρ) = .ok true ρ := rfl
noncomputable def HX (g : AEnv → Res Bool) (r : Res Bool) : Res Bool := JY (fun _ => r) g []
theorem Lb (h : g ρ = rB) : HX g (.ok true ρ) = rB := h
theorem Lc : HX g (.ok false ρ) = .ok false ρ := rfl
noncomputable def orK (g : AEnv → Res Bool) (r : Res Bool) : Res Bool := eOr (fun _ => r) g []
theorem Ld : orK g (.ok true ρ) = .ok true ρ := rfl
theorem Le (h : g ρ = rB) : orK g (.ok false ρ) = rB := h
noncomputable def Bm (F : D → D → Option T) (a : Bv) (r : Res Bv) : Res Bool := QD F (fun ρ => .ok a ρ) (fun _ => r) []
theorem Lf (h : Bv.get ρ a = some x) (h2 : Bv.get ρ b = some y) (h3 : F x y = some (.sh (.bool c))) : Bm F a (.ok b ρ) = .ok c ρ := (KL h).trans ((KL h2).trans (KL h3))
noncomputable def Fd (F : D → D → Option T) (g : AEnv → Res Bv) (r : Res Bv) : Res Bool := QD F (fun _ => r) g []
theorem Lg (h : g ρ = r) (h2 : Bm F a r = rB) : Fd F g (.ok a ρ) = rB := by subst h; exact h2
noncomputable def CJ (F' : D → D → Option T) (b : Bv) (r : Res Bv) : Res Bool := Bm F' b r
theorem Lh (h : Bv.get ρ b = some y) (h2 : Bv.get ρ a = some z) (h3 : F' y z = some (.sh (.bool c))) : CJ F' b (.ok a ρ) = .ok c ρ := Lf h h2 h3
noncomputable def FK (F' : D → D → Option T) (h : AEnv → Res Bv) (b : Bv) (ρ : AEnv) (c : Bool) : Res Bool := cond c (CJ F' b (h ρ)) (.ok false ρ)
theorem Li (h1 : h ρ = r) (h2 : CJ F' b r = rB) : FK F' h b ρ true = rB := by subst h1; exact h2
noncomputable def EW (F F' : D → D → Option T) (h : AEnv → Res Bv) (a : Bv) (r : Res Bv) : Res Bool := YK F F' (fun ρ => .ok a ρ) (fun _ => r) h []
theorem Lj (h1 : Bv.get ρ a = some x) (h2 : Bv.get ρ b = some y) (h3 : F x y = some (.sh (.bool c))) (h4 : FK F' h b ρ c = rB) : EW F F' h a (.ok b ρ) = rB := by
 subst h4
 conv => lhs; whnf; rw [h1, h2]; whnf; rw [h3]
 cases c <;> rfl
noncomputable def EZ (F F' : D → D → Option T) (g h : AEnv → Res Bv) (r : Res Bv) : Res Bool := YK F F' (fun _ => r) g h []
theorem Lk (h1 : g ρ = r) (h2 : EW F F' h a r = rB) : EZ F F' g h (.ok a ρ) = rB := by subst h1; exact h2
noncomputable def boL (g : AEnv → Res T) (ρ : AEnv) (op : BoolOp) (c : Bool) : Res T := eBo op (fun _ => .ok (.val (.bool c)) ρ) g []
theorem Ll (h : g ρ = rT) : boL g ρ .And true = rT := h
noncomputable def boK (op : BoolOp) (g : AEnv → Res T) (r : Res Bv) : Res T := eBo op (fun _ => r) g []
theorem Lm (h : Bv.get ρ a = some (.bool c)) (h2 : boL g ρ op c = rT) : boK op g (.ok a ρ) = rT := by
 subst h2; conv => lhs; whnf; rw [h]
 rfl
noncomputable def Fg (r : Res T) : Res (List D) := Q4 (fun _ => r) []
theorem Ln (h : T.val t = d) (h2 : Zb d = some ds) : Fg (.ok t ρ) = .ok ds ρ := by subst h; conv => lhs; whnf; rw [h2]
noncomputable def Gb (r : Res T) : Res (List D) := WA (fun _ => r) []
theorem Lo (h : T.val t = .list ds) : Gb (.ok t ρ) = .ok (XW ds) ρ := by conv => lhs; whnf; rw [h]
theorem Lp (h : T.val t = .tup ds) : Gb (.ok t ρ) = .ok (XW ds) ρ := by conv => lhs; whnf; rw [h]
noncomputable def HD (g : AEnv → Res Fl) (r : Res Fl) : Res Fl := Qj (fun _ => r) g []
theorem Lq (h : g ρ = s) : HD g (.ok .next ρ) = s := h
theorem Lr : HD g (.ok (.ret t) ρ) = .ok (.ret t) ρ := rfl
noncomputable def ifK (f g : AEnv → Res Fl) (r : Res Bool) : Res Fl := sIf (fun _ => r) f g []
theorem Ls (h : p ρ = s) : ifK p q (.ok true ρ) = s := h
theorem Lu (h : q ρ = s) : ifK p q (.ok false ρ) = s := h
noncomputable def Iy (r : Res T) : Res Fl := Zq (fun _ => r) []
theorem Lv : Iy (.ok t ρ) = .ok (.ret t) ρ := rfl
noncomputable def Hf (r : Res Bv) : Res Fl := Zd (fun _ => r) []
theorem Lw : Hf (.ok a ρ) = .ok .next ρ := rfl
noncomputable def IA (i : Nat) (r : Res T) : Res Fl := Qx i (fun _ => r) []
theorem Lx (h : List.set ρ i (some t) = ρ') : IA i (.ok t ρ) = .ok .next ρ' := by subst h; rfl
noncomputable def ID (b : D → AEnv → Option AEnv) (body : AEnv → Res Fl) (r : Res (List D)) : Res Fl := ZI (fun _ => r) b body []
theorem Ly (h : XF b body ds ρ = s) : ID b body (.ok ds ρ) = s := h
noncomputable def H0 (b : D → AEnv → Option AEnv) (body : AEnv → Res Fl) (ds : List D) (r : Res Fl) : Res Fl := r.bind fun fl ρ₂ => match fl with
 | .next => XF b body ds ρ₂
 | .cont => XF b body ds ρ₂
 | .brk => .ok .next ρ₂
 | .ret t => .ok (.ret t) ρ₂
theorem Lz (h : XF b body ds ρ = s) : H0 b body ds (.ok .next ρ) = s := h
theorem LA : H0 b body ds (.ok (.ret t) ρ) = .ok (.ret t) ρ := rfl
section
variable {ρ ρ₁ ρ₂ ρ₃ ρ' : AEnv} {d x y : D} {m : Bool} {i n : Nat} {t t' : T} {b : Bv} {bs : List Bv} {ds ds' : List D} {u : Option T} {l l' : AEnv}
theorem QO : (T.sh d).val = d := rfl
theorem ZJ : (T.ow m d).val = d := rfl
theorem E8 : (T.sh d).weak = .sh d := rfl
theorem IF : (T.ow m d).weak = .ow false d := rfl
theorem IS : List.set (u :: l) 0 v = v :: l := rfl
theorem B1 {u0 u1 : Option T} : List.set (u0 :: u1 :: l) 1 v = u0 :: v :: l := rfl
theorem YX {u0 u1 u2 : Option T} : List.set (u0 :: u1 :: u2 :: l) 2 v = u0 :: u1 :: v :: l := rfl
theorem Ui {u0 u1 u2 u3 : Option T} : List.set (u0 :: u1 :: u2 :: u3 :: l) 3 v = u0 :: u1 :: u2 :: v :: l := rfl
theorem OT {u0 u1 u2 u3 u4 : Option T} : List.set (u0 :: u1 :: u2 :: u3 :: u4 :: l) 4 v = u0 :: u1 :: u2 :: u3 :: v :: l := rfl
theorem Fr {u0 u1 u2 u3 u4 u5 : Option T} : List.set (u0 :: u1 :: u2 :: u3 :: u4 :: u5 :: l) 5 v = u0 :: u1 :: u2 :: u3 :: u4 :: v :: l := rfl
theorem BS {u0 u1 u2 u3 u4 u5 u6 : Option T} : List.set (u0 :: u1 :: u2 :: u3 :: u4 :: u5 :: u6 :: l) 6 v = u0 :: u1 :: u2 :: u3 :: u4 :: u5 :: v :: l := rfl
theorem Cb {u0 u1 u2 u3 u4 u5 u6 u7 : Option T} : List.set (u0 :: u1 :: u2 :: u3 :: u4 :: u5 :: u6 :: u7 :: l) 7 v = u0 :: u1 :: u2 :: u3 :: u4 :: u5 :: u6 :: v :: l := rfl
theorem Ct {u0 u1 u2 u3 u4 u5 u6 u7 u8 : Option T} : List.set (u0 :: u1 :: u2 :: u3 :: u4 :: u5 :: u6 :: u7 :: u8 :: l) 8 v = u0 :: u1 :: u2 :: u3 :: u4 :: u5 :: u6 :: u7 :: v :: l := rfl
theorem IT {u0 u1 u2 u3 u4 u5 u6 u7 u8 u9 : Option T} : List.set (u0 :: u1 :: u2 :: u3 :: u4 :: u5 :: u6 :: u7 :: u8 :: u9 :: l) 9 v = u0 :: u1 :: u2 :: u3 :: u4 :: u5 :: u6 :: u7 :: u8 :: v :: l := rfl
theorem Fe {u0 u1 u2 u3 u4 u5 u6 u7 u8 u9 u10 : Option T} : List.set (u0 :: u1 :: u2 :: u3 :: u4 :: u5 :: u6 :: u7 :: u8 :: u9 :: u10 :: l) 10 v = u0 :: u1 :: u2 :: u3 :: u4 :: u5 :: u6 :: u7 :: u8 :: u9 :: v :: l := rfl
theorem Fy {u0 u1 u2 u3 u4 u5 u6 u7 u8 u9 u10 u11 : Option T} : List.set (u0 :: u1 :: u2 :: u3 :: u4 :: u5 :: u6 :: u7 :: u8 :: u9 :: u10 :: u11 :: l) 11 v = u0 :: u1 :: u2 :: u3 :: u4 :: u5 :: u6 :: u7 :: u8 :: u9 :: u10 :: v :: l := rfl
theorem Hn {u0 u1 u2 u3 u4 u5 u6 u7 u8 u9 u10 u11 u12 : Option T} : List.set (u0 :: u1 :: u2 :: u3 :: u4 :: u5 :: u6 :: u7 :: u8 :: u9 :: u10 :: u11 :: u12 :: l) 12 v = u0 :: u1 :: u2 :: u3 :: u4 :: u5 :: u6 :: u7 :: u8 :: u9 :: u10 :: u11 :: v :: l := rfl
theorem DV {u0 u1 u2 u3 u4 u5 u6 u7 u8 u9 u10 u11 u12 u13 : Option T} : List.set (u0 :: u1 :: u2 :: u3 :: u4 :: u5 :: u6 :: u7 :: u8 :: u9 :: u10 :: u11 :: u12 :: u13 :: l) 13 v = u0 :: u1 :: u2 :: u3 :: u4 :: u5 :: u6 :: u7 :: u8 :: u9 :: u10 :: u11 :: u12 :: v :: l := rfl
theorem DI {u0 u1 u2 u3 u4 u5 u6 u7 u8 u9 u10 u11 u12 u13 u14 : Option T} : List.set (u0 :: u1 :: u2 :: u3 :: u4 :: u5 :: u6 :: u7 :: u8 :: u9 :: u10 :: u11 :: u12 :: u13 :: u14 :: l) 14 v = u0 :: u1 :: u2 :: u3 :: u4 :: u5 :: u6 :: u7 :: u8 :: u9 :: u10 :: u11 :: u12 :: u13 :: v :: l := rfl
theorem QK : Bv.get ρ (.val d) = some d := rfl
theorem Yy : (T.sh d).get = some d := rfl
theorem Hg (h : ρ[i]? = some (some t)) (h2 : t.get = some d) : Bv.get ρ (.var i) = some d := by
 conv => lhs; whnf; rw [h]
 exact h2
theorem QA : XN ρ [] = some [] := rfl
theorem Qs (h : b.get ρ = some d) (h2 : XN ρ bs = some ds) : XN ρ (b :: bs) = some (d :: ds) := by conv => lhs; whnf; rw [h, h2]
theorem Uv : J5 ρ [] = some [] := rfl
theorem Y9 {r : List (Option Nat)} (h : J5 ρ r = some l) : J5 ρ (none :: r) = some (none :: l) := congrArg (Option.map (none :: ·)) h
theorem UN {r : List (Option Nat)} (h : ρ[i]? = some (some t)) (h2 : t.weak = t') (h3 : J5 ρ r = some l) : J5 ρ (some i :: r) = some (some t' :: l) := by subst h2; conv => lhs; whnf; rw [h]; whnf; rw [h3]
theorem ZL (h : ρ[i]? = some (some (.ow true (.list ds)))) (hl : ds.length ≤ 1000000) : XD ρ i = some ds := by
 conv => lhs; whnf; rw [h]
 exact if_pos hl
theorem Q2 (h : bs.all (ZK ρ) = true) : Yl bs ρ (.ok t) = .ok t ρ := if_pos h
theorem Zf (h : bs.all (ZK ρ) = false) (h2 : t.val = d) (h3 : XS d = true) : Yl bs ρ (.ok t) = .ok (.sh d) ρ := by subst h2; exact (if_neg (by rw [h]; decide)).trans (if_pos h3)
end
section
variable {ρ ρ₁ ρ₂ ρ₃ ρ' : AEnv} {d x y z : D} {i : Nat} {t : T} {a b : Bv} {bs : List Bv} {ds ds' : List D} {C : Addr} {c : Bool}
variable {f g h : AEnv → Res Bv} {fT gT : AEnv → Res T} {fa : AEnv → Res (List Bv)} {fd : AEnv → Res (List D)} {tb tc : AEnv → Res Bool} {r : Res Bv} {rT : Res T} {rB rB' : Res Bool} {rL rL' : Res (List Bv)} {rD rD' : Res (List D)}
theorem X7 : Qe d ρ = .ok (.sh d) ρ := rfl
theorem Q9 (h : ρ[i]? = some (some t)) : eOp i ρ = .ok (.var i) ρ := by conv => lhs; whnf; rw [h]
theorem Xh (h : ρ[i]? = some (some (.sh d))) : Q3 i ρ = .ok (.sh d) ρ := by conv => lhs; whnf; rw [h]
theorem HA (h : ρ[i]? = some (some (.ow true (.list ds)))) (h2 : List.set ρ i (some (.sh (.list ds))) = ρ') : Q3 i ρ = .ok (.sh (.list ds)) ρ' := by subst h2; conv => lhs; whnf; rw [h]
theorem Qz (h1 : fT ρ = rT) (h2 : Ir rT = r) : Qc fT ρ = r := by subst h1; exact h2
theorem Dv {F : D → Option T} (h1 : f ρ = r) (h2 : H8 F r = rT) : Bs F f ρ = rT := by subst h1; exact h2
theorem XO {F : D → D → Option T} (h1 : f ρ = r) (h2 : Ia F g r = rT) : Qr F f g ρ = rT := by subst h1; exact h2
theorem Xl {F : List D → Option T} (h1 : fa ρ = rL) (h2 : H4 F rL = rT) : QX F fa ρ = rT := by subst h1; exact h2
theorem QE {F : List D → FOut} (h1 : fa ρ = rL) (h2 : Hh F rL = rT) : Qy F fa ρ = rT := by subst h1; exact h2
theorem Xo : Qi ρ = .ok [] ρ := rfl
theorem QJ (h1 : f ρ = r) (h2 : Fp fa r = rL) : Qb f fa ρ = rL := by subst h1; exact h2
theorem Zr : Zg ρ = .ok [] ρ := rfl
theorem XR (h1 : fT ρ = rT) (h2 : Ho fd rT = rD) : QH fT fd ρ = rD := by subst h1; exact h2
theorem Jp (h1 : fd ρ = rD) (h2 : H9 rD = rT) : YL fd ρ = rT := by subst h1; exact h2
theorem Jv (h1 : fd ρ = rD) (h2 : H6 rD = rT) : Uq fd ρ = rT := by subst h1; exact h2
theorem Q8 (h1 : f ρ = r) (h2 : E0 r = rB) : Q5 f ρ = rB := by subst h1; exact h2
theorem X0 (h1 : tb ρ = rB) (h2 : Hr rB = rB') : ZH tb ρ = rB' := by subst h1; exact h2
theorem ZD : Yk ρ = .ok true ρ := rfl
theorem QQ : Xm ρ = .ok false ρ := rfl
theorem Ux (h1 : tb ρ = rB) (h2 : HX tc rB = rB') : JY tb tc ρ = rB' := by subst h1; exact h2
theorem X6 (h1 : tb ρ = rB) (h2 : orK tc rB = rB') : eOr tb tc ρ = rB' := by subst h1; exact h2
theorem QW {F : D → D → Option T} (h1 : f ρ = r) (h2 : Fd F g r = rB) : QD F f g ρ = rB := by subst h1; exact h2
theorem Jz {F F' : D → D → Option T} (h1 : f ρ = r) (h2 : EZ F F' g h r = rB) : YK F F' f g h ρ = rB := by subst h1; exact h2
theorem Zc : Qc (Qe d) ρ = .ok (.val d) ρ := rfl
theorem XU : Qb (Qc (Qe d)) Qi ρ = .ok [.val d] ρ := rfl
theorem QM (h0 : ρ[i]? = some (some t)) (h : fa ρ = rL) (h2 : CQ (.var i) rL = rL') : Qb (eOp i) fa ρ = rL' := QJ (Q9 h0) (I3 h h2)
theorem Qm (h0 : ρ[i]? = some (some t)) : Qb (eOp i) Qi ρ = .ok [.var i] ρ := QJ (Q9 h0) rfl
theorem Ve {F : D → D → Option T} (h1 : g ρ = r) (h2 : GA F (.val d) r = rT) : Qr F (Qc (Qe d)) g ρ = rT := by subst h1; exact h2
theorem Ze {F : D → D → Option T} (h0 : ρ[i]? = some (some t)) (h1 : g ρ = r) (h2 : GA F (.var i) r = rT) : Qr F (eOp i) g ρ = rT := XO (Q9 h0) (IZ h1 h2)
theorem ZS {F : D → D → Option T} {t' : T} (h0 : ρ[i]? = some (some t)) (h1 : t.get = some x) (h : F x d = some t') : Qr F (eOp i) (Qc (Qe d)) ρ = .ok t' ρ := XO (Q9 h0) (IZ Zc (IY (Hg h0 h1) rfl h))
theorem Xs {F : D → D → Option T} (h0 : ρ[i]? = some (some t)) (h1 : g ρ = r) (h2 : Bm F (.var i) r = rB) : QD F (eOp i) g ρ = rB := QW (Q9 h0) (Lg h1 h2)
theorem B8 {F : D → D → Option T} (h0 : ρ[i]? = some (some t)) (h1 : t.get = some x) (h : F x d = some (.sh (.bool c))) : QD F (eOp i) (Qc (Qe d)) ρ = .ok c ρ := QW (Q9 h0) (Lg Zc (Lf (Hg h0 h1) rfl h))
theorem DE {op : BoolOp} (h1 : f ρ = r) (h2 : boK op gT r = rT) : eBo op f gT ρ = rT := by subst h1; exact h2
theorem Ye : XY ρ = .ok none ρ := rfl
theorem JM {j : Int} (h1 : f ρ = .ok a ρ₁) (h2 : a.get ρ₁ = some (.int j)) : YQ f ρ = .ok (some j) ρ₁ := (G4 h1).trans (KL (o := (a.get ρ₁).bind asI) (by rw [h2]; rfl))
theorem YV {p q : AEnv → Res (Option Int)} {lo hi : Option Int} (h1 : f ρ = .ok a ρ₁) (h2 : p ρ₁ = .ok lo ρ₂) (h3 : q ρ₂ = .ok hi ρ₃) (h4 : a.get ρ₃ = some x) (h5 : Uk x lo hi = some t) : Zo f p q ρ = .ok t ρ₃ := by conv => lhs; whnf; rw [h1]; whnf; rw [h2]; whnf; rw [h3]; whnf; rw [h4]; whnf; rw [h5]
theorem QR (h1 : fT ρ = rT) (h2 : Fg rT = rD) : Q4 fT ρ = rD := by subst h1; exact h2
theorem Bh (h1 : fT ρ = rT) (h2 : Gb rT = rD) : WA fT ρ = rD := by subst h1; exact h2
theorem Yq {cap : List (Option Nat)} {bd : D → AEnv → Option AEnv} {l ρ₀ : AEnv} {out : List D} (h1 : J5 ρ cap = some l) (h2 : fd ρ = .ok ds ρ₁) (h3 : J5 ρ₁ cap = some ρ₀) (h4 : JA bd tb fT ρ₀ ds [] = some out) : Z7 cap fd bd tb fT ρ = .ok (.ow true (.list out)) ρ₁ := by conv => lhs; whnf; rw [h1]; whnf; rw [h2]; whnf; rw [h3]; whnf; rw [Gv h4]
theorem Yg (h1 : XD ρ i = some ds) (h2 : fT ρ = .ok t ρ₁) (h3 : XD ρ₁ i = some ds') (h4 : t.val = d) (h5 : List.set ρ₁ i (some (.ow true (.list (ds' ++ [d])))) = ρ') : YE i fT ρ = .ok (.sh .none) ρ' := by subst h4; subst h5; conv => lhs; whnf; rw [h1]; whnf; rw [h2]; whnf; rw [h3]
variable {sf sg : AEnv → Res Fl} {s s' : Res Fl} {fl : Fl}
theorem Qv : Qn ρ = .ok .next ρ := rfl
theorem Ef (h : ρ[i]? = some (some (.sh d))) : YB i ρ = .ok (.ret (.sh d)) ρ := by conv => lhs; whnf; rw [h]
theorem VQ (h : ρ[i]? = some (some (.ow true (.list ds)))) : YB i ρ = .ok (.ret (.ow true (.list ds))) ρ := by conv => lhs; whnf; rw [h]
theorem Qw (h1 : sf ρ = s) (h2 : HD sg s = s') : Qj sf sg ρ = s' := by subst h1; exact h2
theorem Q6 (h1 : tb ρ = rB) (h2 : ifK sf sg rB = s) : sIf tb sf sg ρ = s := by subst h1; exact h2
theorem XC (h1 : fT ρ = rT) (h2 : Iy rT = s) : Zq fT ρ = s := by subst h1; exact h2
theorem Xu (h1 : f ρ = r) (h2 : Hf r = s) : Zd f ρ = s := by subst h1; exact h2
theorem Xf (h1 : fT ρ = rT) (h2 : IA i rT = s) : Qx i fT ρ = s := by subst h1; exact h2
theorem Xx {b : D → AEnv → Option AEnv} (h1 : fd ρ = rD) (h2 : ID b sf rD = s) : ZI fd b sf ρ = s := by subst h1; exact h2
theorem Oh {j : Int} (h1 : fT ρ = .ok t ρ₁) (h2 : XD ρ₁ i = some ds) (h3 : f ρ₁ = .ok b ρ₂) (h4 : b.get ρ₂ = some (.int j)) (h5 : XD ρ₂ i = some ds') (h6 : 0 ≤ j ∧ j < ds'.length) (h7 : t.val = d) (h8 : List.set ρ₂ i (some (.ow true (.list (ds'.set j.toNat d)))) = ρ') : X5 i f fT ρ = .ok .next ρ' := by
 subst h7; subst h8
 conv => lhs; whnf; rw [h1]; whnf; rw [h2]; whnf; rw [h3]; whnf; rw [h4, h5]
 exact if_pos h6
theorem XB {n : Nat} {is : List Nat} {o : FOut} (ρ : AEnv) (hl : ds.length = is.length) (hi : OB n is ds = ρ) (h : sf ρ = s) (ho : F5 s = o) : Z1 n is sf ds = o := by subst hi; subst h; subst ho; exact if_pos hl
theorem XE : F5 (.ok (.ret t) ρ) = .ok t := rfl
theorem UD : F5 (.ok .next ρ) = .ok (.sh .none) := rfl
theorem QP {b : D → AEnv → Option AEnv} (h1 : b d ρ = some ρ₁) (h2 : sf ρ₁ = s) (h3 : H0 b sf ds s = s') : XF b sf (d :: ds) ρ = s' := by
 subst h2; subst h3; conv => lhs; whnf; rw [h1]
 rfl
theorem Xa (h : List.set ρ i (some (.sh d)) = ρ') : QG i d ρ = some ρ' := congrArg some h
end
theorem U0 {α : Type} {n : Nat} : List.length ([] : List α) ≤ n := Nat.zero_le _
theorem UZ {α : Type} {n : Nat} {a : α} {l : List α} (h : l.length ≤ n) : (a :: l).length ≤ n + 1 := Nat.succ_le_succ h
theorem Xn {a b : Int} (h : b ≠ 0) : Z3 (.int a) (.int b) = some (.sh (.int (a.fmod b))) := if_pos h
theorem Zn {a b : Int} (h : b ≠ 0 ∧ b.natAbs < 1073741824) : UT (.int a) (.int b) = some (.sh (.int (a.fdiv b))) := if_pos h
theorem WL {a b : Int} (h : (small a || small b) = true) : WZ (.int a) (.int b) = some (.sh (.int (a * b))) := if_pos h
theorem WO {ds : List D} (h : ds.length ≤ 1000000) : Y2 [.tup ds] = some (.sh (.int ds.length)) := if_pos h
theorem Z2 {ds : List D} (h : ds.length ≤ 1000000) : Y2 [.list ds] = some (.sh (.int ds.length)) := if_pos h
theorem Kn {a b : Int} (h : a ≤ b) : leI (.int a) (.int b) = some (.sh (.bool true)) := congrArg (fun b => some (T.sh (.bool b))) (decide_eq_true h)
theorem VE {a b : Int} (h : a < b) : ltI (.int a) (.int b) = some (.sh (.bool true)) := congrArg (fun b => some (T.sh (.bool b))) (decide_eq_true h)
theorem VH {a b : Int} (h : ¬ a < b) : ltI (.int a) (.int b) = some (.sh (.bool false)) := congrArg (fun b => some (T.sh (.bool b))) (decide_eq_false h)
theorem Ib {a b : Int} (h : a ≠ b) : eqI (.int a) (.int b) = some (.sh (.bool false)) := by rw [GG, VM.mpr h]
theorem GK (a b : Int) : neI (.int a) (.int b) = some (.sh (.bool !(eqZ a b))) := CL (DM a b)
theorem Ga (a : Int) : neI (.int a) (.int a) = some (.sh (.bool false)) := by rw [GK, WI.mpr rfl]; rfl
theorem BL {ds : List D} {i : Int} (h0 : 0 ≤ i) (h1 : i < 2 ^ 63) : CP ds i = ds[i.toNat]? := (if_pos h0).trans (if_pos h1)
theorem By {ds : List D} {i : Int} {d : D} (h0 : 0 ≤ i) (h1 : i < 2 ^ 63) (h : ds[i.toNat]? = some d) : QY (.tup ds) (.int i) = some (.sh d) := congrArg (Option.map T.sh) ((BL h0 h1).trans h)
theorem JH {ds : List D} {i : Int} {d : D} (h0 : 0 ≤ i) (h1 : i < 2 ^ 63) (h : ds[i.toNat]? = some d) : QY (.list ds) (.int i) = some (.sh d) := congrArg (Option.map T.sh) ((BL h0 h1).trans h)
theorem KM {b : D → AEnv → Option AEnv} {sf : AEnv → Res Fl} (P : AEnv → List D → Prop) (hs : ∀ ρ d ds, P ρ (d :: ds) → ∃ ρ₁ ρ₂, b d ρ = some ρ₁ ∧ sf ρ₁ = .ok .next ρ₂ ∧ P ρ₂ ds) : ∀ (ds : List D) (ρ : AEnv), P ρ ds → ∃ ρ', XF b sf ds ρ = .ok .next ρ' ∧ P ρ' []
 | [], ρ, hp => ⟨ρ, rfl, hp⟩
 | d :: ds, ρ, hp => by
  obtain ⟨ρ₁, ρ₂, h1, h2, h3⟩ := hs ρ d ds hp
  obtain ⟨ρ', h4, h5⟩ := KM P hs ds ρ₂ h3
  exact ⟨ρ', QP h1 h2 (Lz h4), h5⟩
theorem Wx {b : Int} (h : b.natAbs < 2 ^ 63) : small b = true := decide_eq_true h
theorem F3 {ds : List D} {p : Nat} (h : p ≤ ds.length) : Ke ds none (some (p : Int)) = ds.take p := by
 unfold Ke
 simp only [Option.elim, List.drop_zero, clipAt_nat, Nat.sub_zero, Nat.min_eq_left h]
theorem Fz {ds : List D} {p : Nat} (h : p ≤ ds.length) : Ke ds (some (p : Int)) none = ds.drop p := by
 unfold Ke
 simp only [Option.elim, clipAt_nat, Nat.min_eq_left h]
 exact List.take_of_length_le (by rw [List.length_drop]; exact Nat.le_refl _)
noncomputable def IR (P : AEnv → Prop) (R : Res Fl → Prop) : Res Fl → Prop
 | .ok .next ρ => P ρ
 | .ok .cont ρ => P ρ
 | .ok .brk ρ => R (.ok .next ρ)
 | .ok (.ret t) ρ => R (.ok (.ret t) ρ)
 | .exc C ρ => R (.exc C ρ)
 | .stuck => False
theorem BI {t : AEnv → Res Bool} {b : AEnv → Res Fl} (P : Nat → AEnv → Prop) (R : Res Fl → Prop) (hs : ∀ m ρ, P m ρ → (∃ ρ₁, t ρ = .ok false ρ₁ ∧ R (.ok .next ρ₁)) ∨ ∃ ρ₁ r, t ρ = .ok true ρ₁ ∧ b ρ₁ = r ∧ IR (fun ρ' => ∃ m', m' < m ∧ P m' ρ') R r) : ∀ (n m : Nat) (ρ : AEnv), P m ρ → m < n → ∃ r, Ou n t b ρ = r ∧ R r
 | 0, _, _, _, h => absurd h (Nat.not_lt_zero _)
 | n + 1, m, ρ, hp, hm => by
  rcases hs m ρ hp with ⟨ρ₁, h1, h2⟩ | ⟨ρ₁, r, h1, h2, h3⟩
  ·refine ⟨_, ?_, h2⟩
   conv => lhs; whnf; rw [h1]
   rfl
  ·have key : ∀ ρ₂, (∃ m', m' < m ∧ P m' ρ₂) → ∃ r, Jo t b n ρ₂ = r ∧ R r := fun ρ₂ ⟨m', h4, h5⟩ => BI P R hs n m' ρ₂ h5 (by lia)
   have e : Ou (n + 1) t b ρ = ((t ρ).bind fun c ρ₁ => if c then (b ρ₁).bind fun fl ρ₂ => (match fl with | .next => Jo t b n ρ₂ | .cont => Jo t b n ρ₂ | .brk => .ok .next ρ₂ | .ret t => .ok (.ret t) ρ₂) else .ok .next ρ₁) := rfl
   rw [e, h1]
   show ∃ r, ((b ρ₁).bind fun fl ρ₂ => (match fl with | .next => Jo t b n ρ₂ | .cont => Jo t b n ρ₂ | .brk => .ok .next ρ₂ | .ret t => .ok (.ret t) ρ₂)) = r ∧ R r
   rw [h2]
   cases r with
   | stuck => exact h3.elim
   | exc C ρ₂ => exact ⟨_, rfl, h3⟩
   | ok fl ρ₂ =>
    cases fl with
    | next => exact key _ h3
    | cont => exact key _ h3
    | brk => exact ⟨_, rfl, h3⟩
    | ret v => exact ⟨_, rfl, h3⟩
theorem Ie {a b : Int} (h : b < a) : gtI (.int a) (.int b) = some (.sh (.bool true)) := congrArg (fun b => some (T.sh (.bool b))) (decide_eq_true h)
theorem Hm {a b : Int} (h : ¬ b < a) : gtI (.int a) (.int b) = some (.sh (.bool false)) := congrArg (fun b => some (T.sh (.bool b))) (decide_eq_false h)
theorem DT {p : Nat} (h : p ≤ 1000) : (0 : Int) ≤ (p : Int) ∧ (p : Int) < 2 ^ 63 := by lia
theorem Vs {ds : List D} {p : Nat} {d : D} (hp : p ≤ 1000) (h : ds[p]? = some d) : QY (.list ds) (.int (p : Int)) = some (.sh d) := JH (DT hp).1 (DT hp).2 h
theorem BW {ds : List D} {p : Nat} {d : D} (hp : p ≤ 1000) (h : ds[p]? = some d) : QY (.tup ds) (.int (p : Int)) = some (.sh d) := By (DT hp).1 (DT hp).2 h
theorem DR {n : Nat} (h : n ≤ 12) : n ≤ 1000000 := Nat.le_trans h (by decide)
theorem FV {n : Nat} (h : n ≤ 12) : n ≤ 1000 := Nat.le_trans h (by decide)
theorem Bl {xs ys : List D} (h : xs.length + ys.length ≤ 1000000) : Xz (.list xs) (.list ys) = some (.ow true (.list (xs ++ ys))) := if_pos h
theorem HJ {xs ys : List D} (h : xs.length + ys.length ≤ 1000000) : Xz (.tup xs) (.tup ys) = some (.sh (.tup (xs ++ ys))) := if_pos h
theorem DF {ds : List D} (h : ds.length ≤ 1000000) : Yw [.tup ds] = some (.ow true (.list ds)) := if_pos h
theorem GM {ds : List D} (h : ds.length ≤ 1000000) : Yw [.list ds] = some (.ow true (.list ds)) := if_pos h
theorem Gj {lo hi st : Int} (h : Zt lo hi st = true) : Yw [.range lo hi st] = some (.ow true (.list (Un lo hi st))) := if_pos h
theorem E2 {ds : List D} (h : ds.length ≤ 1000000) : Yc [.list ds] = some (.sh (.tup ds)) := if_pos h
theorem Fb {lo hi st : Int} (h : Zt lo hi st = true) : Yc [.range lo hi st] = some (.sh (.tup (Un lo hi st))) := if_pos h
theorem E7 {lo hi st : Int} (h : Zt lo hi st = true) : Zb (.range lo hi st) = some (Un lo hi st) := if_pos h
theorem Ox {ds : List D} {lo hi : Option Int} (h : ds.length ≤ 1000000) : Uk (.list ds) lo hi = some (.ow true (.list (Ke ds lo hi))) := if_pos h
theorem HP {x : D} {n : Int} (h : 0 ≤ n ∧ n ≤ 1000000) : WZ (.list [x]) (.int n) = some (.ow true (.list (List.replicate n.toNat x))) := if_pos h
theorem GU {ds : List D} {bs : List Bool} (h : UK ds = some bs) : Hc [.list ds] = some (.sh (.bool (bs.all id))) := congrArg (Option.map fun (bs : List Bool) => T.sh (.bool (bs.all id))) h
theorem Eo {ds : List D} {ns : List Int} (h : J4 ds = some ns) (hl : ns.length < 64) : KK [.tup ds] = some (.ow true (.list ((Uo ns).map .int))) := (congrArg (fun (o : Option (List Int)) => Option.bind o fun (ns : List Int) => if ns.length < 64 then some (T.ow true (.list ((Uo ns).map .int))) else none) h).trans (if_pos hl)
theorem D0 {ds : List D} {d : D} (hl : ds.length ≤ 1000) : QY (.list (ds ++ [d])) (.int (-1)) = some (.sh d) := by
 have hn : (ds ++ [d]).length = ds.length + 1 := List.length_append
 have e : CP (ds ++ [d]) (-1) = (ds ++ [d])[((-1 : Int) + (ds ++ [d]).length).toNat]? := (if_neg (by decide)).trans (if_pos ⟨by decide, by rw [hn]; simp +arith⟩)
 rw [hn, show ((-1 : Int) + ((ds.length + 1 : Nat) : Int)).toNat = ds.length by simp +arith, List.getElem?_append_right (Nat.le_refl _), Nat.sub_self] at e
 exact congrArg (Option.map T.sh) e
end Mine
end

section
namespace Mine
open PySem
noncomputable def Iv (i : Nat) (F : List D → FOut) (r : Res (List Bv)) : Res T := r.bind fun bs ρ₁ => match XN ρ₁ (.var i :: bs) with
 | some ds => Yl (.var i :: bs) ρ₁ (F ds)
 | none => .stuck
theorem LB {i : Nat} {F : List D → FOut} {o : FOut} {ρ : AEnv} {bs : List Bv} {ds : List D} {rT : Res T} (h : XN ρ (.var i :: bs) = some ds) (h2 : F ds = o) (h3 : Yl (.var i :: bs) ρ o = rT) : Iv i F (.ok bs ρ) = rT := by
 subst h2; subst h3; conv => lhs; whnf; rw [h]
section
variable {ρ ρ₁ ρ₂ ρ' : AEnv} {d y z : D} {i j : Nat} {b c : Bv} {bs : List Bv} {ds es : List D} {C : Addr} {n : Str} {ns : List Str} {kk : List Int} {ks : List (List Int)} {fa : AEnv → Res (List Bv)} {f g : AEnv → Res Bv} {fT gT : AEnv → Res T} {rL : Res (List Bv)} {rT : Res T} {p p' : List (List Int) × List D}
theorem V3 (h : ρ[i]? = some (some (.sh (.obj C ns ds)))) (h2 : Oz n ns ds = some d) (h3 : WT d = true) : Om C n i ρ = .ok (.sh d) ρ := by
 conv => lhs; whnf; rw [h]
 refine (if_pos rfl).trans ?_
 conv => lhs; rw [h2]
 exact if_pos h3
theorem Fk {F : List D → FOut} (h : ρ[i]? = some (some (.sh (.obj C ns es)))) (hn : ns.contains n = false) (h1 : fa ρ = rL) (h2 : Iv i F rL = rT) : EB C n i F fa ρ = rT := by
 subst h1; subst h2
 conv => lhs; whnf; rw [h]
 exact if_pos ⟨rfl, fun q => by rw [List.contains_iff_mem.mpr q] at hn; cases hn⟩
theorem GF {I : Addr → List D → IOut} (h1 : fa ρ = .ok bs ρ₁) (h2 : XN ρ₁ bs = some ds) (h3 : bs.all (ZK ρ₁) = true) (h4 : KC I ds = .ok es) : Vq C ns I fa ρ = .ok (.sh (.obj C ns es)) ρ₁ := by
 conv => lhs; whnf; rw [h1]; whnf; rw [h2]
 refine (if_pos h3).trans ?_
 conv => lhs; rw [h4]
theorem WS (h : List.set ρ i (some (.ow true (.dict [] []))) = ρ') : DC i ρ = .ok .next ρ' := congrArg (Res.ok Fl.next) h
theorem YR {m : Bool} (h : ρ[i]? = some (some (.ow m (.dict ks ds)))) : Zp ρ i = some (ks, ds) := by conv => lhs; whnf; rw [h]
theorem Zk (h : ρ[i]? = some (some (.ow true (.dict ks ds)))) (hl : ks.length ≤ 1000000) : JO ρ i = some (ks, ds) := by
 conv => lhs; whnf; rw [h]
 exact if_pos hl
theorem KP {neg r : Bool} (h1 : f ρ = .ok b ρ₁) (h2 : b.get ρ₁ = some y) (h3 : Zp ρ₁ i = some (ks, ds)) (h4 : Yr y = some kk) (h5 : ((QB kk ks).isSome != neg) = r) : Di neg f i ρ = .ok r ρ₁ := by subst h5; conv => lhs; whnf; rw [h1]; whnf; rw [h2, h3]; whnf; rw [h4]
theorem DJ {neg r : Bool} (h1 : f ρ = .ok b ρ₁) (h2 : b.get ρ₁ = some y) (h3 : Zp ρ₁ i = some (ks, ds)) (h4 : Yr y = some kk) (h5 : ((QB kk ks).isSome != neg) = r) : Ff neg f i ρ = .ok (.sh (.bool r)) ρ₁ := by subst h5; conv => lhs; whnf; rw [h1]; whnf; rw [h2, h3]; whnf; rw [h4]
theorem GX (h0 : Zp ρ i = some p) (h1 : f ρ = .ok b ρ₁) (h2 : b.get ρ₁ = some y) (h3 : Zp ρ₁ i = some (ks, ds)) (h4 : Yr y = some kk) (h5 : QB kk ks = some j) (h6 : ds[j]? = some d) : Ki i f ρ = .ok (.sh d) ρ₁ := by conv => lhs; whnf; rw [h0]; whnf; rw [h1]; whnf; rw [h2, h3]; whnf; rw [h4]; whnf; rw [h5]; whnf; rw [h6]
theorem Yi {t : T} (h0 : gT ρ = .ok t ρ₁) (hv : t.val = d) (h1 : JO ρ₁ i = some p) (h2 : f ρ₁ = .ok b ρ₂) (h3 : b.get ρ₂ = some y) (h4 : JO ρ₂ i = some (ks, ds)) (h5 : Yr y = some kk) (h6 : List.set ρ₂ i (some (.ow true (.dict (VD kk ks) (VK kk d ks ds)))) = ρ') : Uf i f gT ρ = .ok .next ρ' := by subst hv; subst h6; conv => lhs; whnf; rw [h0]; whnf; rw [h1]; whnf; rw [h2]; whnf; rw [h3, h4]; whnf; rw [h5]
theorem Hv {t : T} (h1 : fT ρ = .ok t ρ₁) (h2 : t.val = .list ds) : Gz fT ρ = .ok ds.reverse ρ₁ := by conv => lhs; whnf; rw [h1]; whnf; rw [h2]
theorem F2 {v : Int} : WT (.int v) = true := rfl
theorem GL {ds : List D} : WT (.list ds) = true := rfl
theorem JC {i j : Nat} {x y : D} {ρ ρ₁ ρ₂ : AEnv} (h1 : List.set ρ i (some (.sh x)) = ρ₁) (h2 : List.set ρ₁ j (some (.sh y)) = ρ₂) : Xg [i, j] (.tup [x, y]) ρ = some ρ₂ := by
 subst h1 h2; rfl
end
end Mine
end

section
namespace Mine
open PySem PyProof.Rows
noncomputable def gd (p : Program) (w : World) (B : Heap) (mg mb : Str → Option Value) (q : Bool) : Gd := ⟨p, w, B, mg, mb, hd.heap_1 w.params, q⟩
noncomputable def K8 (K : W.Frag) : AEnv → Res Fl := (Qj (Zq (eBo .And (Qc (QX (QV K) (Qb (eOp 0) (Qb (Qc (Qe (.glob (.type "int")))) Qi)))) (Bs Ht (Qc (QX (QV K) (Qb (eOp 0) (Qb (Qc (Qe (.glob (.type "bool")))) Qi))))))) Qn)
noncomputable def XX (K : W.Frag) : List D → FOut := Z1 1 [0] (K8 K)
variable {p : Program} {w : World} {B : Heap} {mg mb : Str → Option Value}
theorem UA (g : Gr (gd p w B mg mb true)) : ZA (gd p w B mg mb true) 1 (.ref 89) (XX (gd p w B mg mb true).K) :=
 fnI g 89 1 [0] (f := K8 (gd p w B mg mb true).K) (Qa (QC (ON (Ot (Qh.of (cB g (.builtin "isinstance") (Q1 g.ok) (aC (nB 0) (aC (Qh.of (gB g (.type "int"))) Qd)))) (Vl (Jc (Qh.of (cB g (.builtin "isinstance") (Q1 g.ok) (aC (nB 0) (aC (Qh.of (gB g (.type "bool"))) Qd)))) HW))))) Qg) (KT fun _ => by kernel_rfl)
noncomputable def JP (K : W.Frag) : AEnv → Res Fl := (Qj (sIf (eOr (ZH (Q5 (Qc (Qy (XX K) (Qb (eOp 0) Qi))))) (eOr (ZH (YK leI leI (Qc (Qe (.int 3))) (eOp 0) (Qc (Qe (.int 12))))) Xm)) (Qj (fun _ => .stuck) Qn) Qn) Qn)
noncomputable def ZX (K : W.Frag) : List D → FOut := Z1 1 [0] (JP K)
theorem U8 (g : Gr (gd p w B mg mb true)) : ZA (gd p w B mg mb true) 2 (.ref 96) (ZX (gd p w B mg mb true).K) :=
 fnI g 96 1 [0] (f := JP (gd p w B mg mb true).K) (Qa (Xj (QT (QL (Xb (Y3 (Qh.of (cF g 89 (UA g) (aC (nB 0) Qd))))) (QL (Xb (chT (Qh.of (gI g 3 280)) (nB 0) (Qh.of (gI g 12 282)) Km Km)) QU))) (Qa Zi Qg) Qg) Qg) (KT fun _ => by kernel_rfl)
noncomputable def Op (K : W.Frag) : AEnv → Res Fl := (Qj (Zd (Qc (Qy (ZX K) (Qb (eOp 0) Qi)))) (Qj (Zq (QX Yc (Qb (Qc (QX XT (Qb (eOp 0) Qi))) Qi))) Qn))
noncomputable def Wz (K : W.Frag) : List D → FOut := Z1 1 [0] (Op K)
theorem Ep (g : Gr (gd p w B mg mb true)) : ZA (gd p w B mg mb true) 3 (.ref 122) (Wz (gd p w B mg mb true).K) :=
 fnI g 122 1 [0] (f := Op (gd p w B mg mb true).K) (Qa (Z5 (Qh.of (cF g 96 (U8 g) (aC (nB 0) Qd))) (fun _ => rfl)) (Qa (QC (cB g (.type "tuple") (YS rfl) (aC (Qh.of (cB g (.type "range") Zu (aC (nB 0) Qd))) Qd))) Qg)) (KT fun _ => by kernel_rfl)
noncomputable def OQ (K : W.Frag) : AEnv → Res Fl := (Qj (sIf (eOr (ZH (Q5 (Qc (QX (QV K) (Qb (eOp 0) (Qb (Qc (Qe (.glob (.type "tuple")))) Qi)))))) (eOr (ZH (YK leI leI (Qc (Qe (.int 3))) (Qc (QX Y2 (Qb (eOp 0) Qi))) (Qc (Qe (.int 12))))) Xm)) (Qj (Zq (Qe (.bool false))) Qn) Qn) (Qj (sIf (ZH (Q5 (Qc (QX Hc (Qb (Qc (Z7 [none, none] (Q4 (Q3 0)) (QG 1) Uj (Qy (XX K) (Qb (eOp 1) Qi)))) Qi))))) (Qj (Zq (Qe (.bool false))) Qn) Qn) (Qj (Zq (Qr eqI (Qc (QX KK (Qb (eOp 0) Qi))) (Qc (QX Yw (Qb (Qc (QX XT (Qb (Qc (QX Y2 (Qb (eOp 0) Qi))) Qi))) Qi))))) Qn)))
noncomputable def YZ (K : W.Frag) : List D → FOut := Z1 1 [0] (OQ K)
theorem Vj (g : Gr (gd p w B mg mb true)) : ZA (gd p w B mg mb true) 2 (.ref 101) (YZ (gd p w B mg mb true).K) :=
 fnI g 101 1 [0] (f := OQ (gd p w B mg mb true).K) (Qa (Xj (QT (QL (Xb (Y3 (Qh.of (cB g (.builtin "isinstance") (Q1 g.ok) (aC (nB 0) (aC (Qh.of (gB g (.type "tuple"))) Qd)))))) (QL (Xb (chT (Qh.of (gI g 3 280)) (Qh.of (cB g (.builtin "len") Zz (aC (nB 0) Qd))) (Qh.of (gI g 12 282)) Km Km)) QU))) (Qa (QC ZO) Qg) Qg) (Qa (Xj (Xb (Y3 (Qh.of (cB g (.builtin "all") (HI rfl) (aC (Qh.of (lc [none, none] (Xp (nV 0)) (tgN 1) YF (cF g 89 (UA g) (aC (nB 1) Qd)))) Qd))))) (Qa (QC ZO) Qg) Qg) (Qa (QC (Em (Qh.of (cB g (.builtin "sorted") D5 (aC (nB 0) Qd))) (Qh.of (cB g (.type "list") (JT rfl) (aC (Qh.of (cB g (.type "range") Zu (aC (Qh.of (cB g (.builtin "len") Zz (aC (nB 0) Qd))) Qd))) Qd))) WU)) Qg))) (KT fun _ => by kernel_rfl)
noncomputable def Wq (K : W.Frag) : AEnv → Res Fl := (Qj (sIf (ZH (Q5 (Qc (Qy (YZ K) (Qb (eOp 0) Qi))))) (Qj (fun _ => .stuck) Qn) Qn) Qn)
noncomputable def Z8 (K : W.Frag) : List D → FOut := Z1 1 [0] (Wq K)
theorem Uw (g : Gr (gd p w B mg mb true)) : ZA (gd p w B mg mb true) 3 (.ref 108) (Z8 (gd p w B mg mb true).K) :=
 fnI g 108 1 [0] (f := Wq (gd p w B mg mb true).K) (Qa (Xj (Xb (Y3 (Qh.of (cF g 101 (Vj g) (aC (nB 0) Qd))))) (Qa Zi Qg) Qg) Qg) (KT fun _ => by kernel_rfl)
noncomputable def UE (K : W.Frag) : AEnv → Res Fl := (Qj (Zd (Qc (Qy (Z8 K) (Qb (eOp 0) Qi)))) (Qj (Zd (Qc (Qy (Z8 K) (Qb (eOp 1) Qi)))) (Qj (sIf (QD neI (Qc (QX Y2 (Qb (eOp 0) Qi))) (Qc (QX Y2 (Qb (eOp 1) Qi)))) (Qj (fun _ => .stuck) Qn) Qn) Qn)))
noncomputable def Y8 (K : W.Frag) : List D → FOut := Z1 2 [0, 1] (UE K)
theorem Bd (g : Gr (gd p w B mg mb true)) : ZA (gd p w B mg mb true) 4 (.ref 115) (Y8 (gd p w B mg mb true).K) :=
 fnI g 115 2 [0, 1] (f := UE (gd p w B mg mb true).K) (Qa (Z5 (Qh.of (cF g 108 (Uw g) (aC (nB 0) Qd))) (fun _ => rfl)) (Qa (Z5 (Qh.of (cF g 108 (Uw g) (aC (nB 1) Qd))) (fun _ => rfl)) (Qa (Xj (JQ (Qh.of (cB g (.builtin "len") Zz (aC (nB 0) Qd))) (Qh.of (cB g (.builtin "len") Zz (aC (nB 1) Qd))) Oi) (Qa Zi Qg) Qg) Qg))) (KD fun _ _ => by kernel_rfl)
noncomputable def Wm (K : W.Frag) : AEnv → Res Fl := (Qj (Zd (Qc (Qy (Y8 K) (Qb (eOp 0) (Qb (eOp 1) Qi))))) (Qj (Zq (QX Yc (Qb (Qc (Z7 [none, none, some 0] (Q4 (Q3 1)) (QG 1) Uj (Qr QY (eOp 2) (eOp 1)))) Qi))) Qn))
noncomputable def XZ (K : W.Frag) : List D → FOut := Z1 2 [0, 1] (Wm K)
theorem Ci (g : Gr (gd p w B mg mb true)) : ZA (gd p w B mg mb true) 5 (.ref 127) (XZ (gd p w B mg mb true).K) :=
 fnI g 127 2 [0, 1] (f := Wm (gd p w B mg mb true).K) (Qa (Z5 (Qh.of (cF g 115 (Bd g) (aC (nB 0) (aC (nB 1) Qd)))) (fun _ => rfl)) (Qa (QC (cB g (.type "tuple") (YS rfl) (aC (Qh.of (lc [none, none, some 0] (Xp (nV 1)) (tgN 1) YF (sub (nB 2) (nB 1)))) Qd))) Qg)) (KD fun _ _ => by kernel_rfl)
noncomputable def CM (K : W.Frag) : AEnv → Res Fl := (Qj (Zd (Qc (Qy (Z8 K) (Qb (eOp 0) Qi)))) (Qj (Qx 1 (Qr WZ (Qc (Uq (QH (Qe (.int 0)) Zg))) (Qc (QX Y2 (Qb (eOp 0) Qi))))) (Qj (ZI (WA (Q3 0)) (Xg [2, 3]) (Qj (X5 1 (eOp 3) (Q3 2)) Qn)) (Qj (Zq (QX Yc (Qb (eOp 1) Qi))) Qn))))
noncomputable def JN (K : W.Frag) : List D → FOut := Z1 4 [0] (CM K)
theorem Gi (g : Gr (gd p w B mg mb true)) : ZA (gd p w B mg mb true) 4 (.ref 134) (JN (gd p w B mg mb true).K) :=
 fnI g 134 4 [0] (f := CM (gd p w B mg mb true).K) (Qa (Z5 (Qh.of (cF g 108 (Uw g) (aC (nB 0) Qd))) (fun _ => rfl)) (Qa (asg 1 (Qo (Qh.of (Zj (vC Qt Q0))) (Qh.of (cB g (.builtin "len") Zz (aC (nB 0) Qd))) WP)) (Qa (J3 (xs := ["place", "bell"]) (enu g (nV 0)) (Hu 2 3) (Qa (HR 1 (nB 3) (nV 2)) Qg)) (Qa (QC (cB g (.type "tuple") (YS rfl) (aC (nB 1) Qd))) Qg)))) (KT fun _ => by kernel_rfl)
noncomputable def Kb (K : W.Frag) : AEnv → Res Fl := (Qj (Qx 2 (QX Yw (Qb (eOp 0) Qi))) (Qj (ZI (Q4 (Q3 1)) (QG 3) (Qj (X5 2 (eOp 3) (Qr QY (eOp 0) (Qc (Qr Xz (eOp 3) (Qc (Qe (.int 1))))))) (Qj (X5 2 (Qc (Qr Xz (eOp 3) (Qc (Qe (.int 1))))) (Qr QY (eOp 0) (eOp 3))) Qn))) (Qj (Zq (QX Yc (Qb (eOp 2) Qi))) Qn)))
noncomputable def JI (K : W.Frag) : List D → FOut := Z1 4 [0, 1] (Kb K)
theorem CK (g : Gr (gd p w B mg mb true)) : ZA (gd p w B mg mb true) 1 (.ref 153) (JI (gd p w B mg mb true).K) :=
 fnI g 153 4 [0, 1] (f := Kb (gd p w B mg mb true).K) (Qa (asg 2 (cB g (.type "list") (JT rfl) (aC (nB 0) Qd))) (Qa (J3 (xs := ["place"]) (Xp (nV 1)) (tgN 3) (Qa (HR 2 (nB 3) (sub (nB 0) (Qh.of (Qo (nB 3) (Qh.of Qt) Xw)))) (Qa (HR 2 (Qh.of (Qo (nB 3) (Qh.of Qt) Xw)) (sub (nB 0) (nB 3))) Qg))) (Qa (QC (cB g (.type "tuple") (YS rfl) (aC (nB 2) Qd))) Qg))) (KD fun _ _ => by kernel_rfl)
noncomputable def ZC (K : W.Frag) : AEnv → Res Fl := (Qj (sIf (eOr (ZH (Q5 (Qc (Qy (YZ K) (Qb (eOp 1) Qi))))) (eOr (QD neI (Qc (QX Y2 (Qb (eOp 1) Qi))) (Qc (Om 219 "bells" 0))) Xm)) (Qj (fun _ => .stuck) Qn) Qn) Qn)
noncomputable def X4 (K : W.Frag) : List D → FOut := Z1 2 [0, 1] (ZC K)
theorem UW (g : Gr (gd p w B mg mb true)) : ZA (gd p w B mg mb true) 3 (.ref 195) (X4 (gd p w B mg mb true).K) :=
 fnI g 195 2 [0, 1] (f := ZC (gd p w B mg mb true).K) (Qa (Xj (QT (QL (Xb (Y3 (Qh.of (cF g 101 (Vj g) (aC (nB 1) Qd))))) (QL (JQ (Qh.of (cB g (.builtin "len") Zz (aC (nB 1) Qd))) (Qh.of (atr g 219 0)) Oi) QU))) (Qa Zi Qg) Qg) Qg) (KD fun _ _ => by kernel_rfl)
noncomputable def Jm (K : W.Frag) : AEnv → Res Fl := (Qj (Zd (Qc (EB 219 "need_head" 0 (X4 K) (Qb (eOp 1) Qi)))) (Qj (Qx 2 (Uq (QH (Q3 1) Zg))) (Qj (ZI (Q4 (Om 219 "steps" 0)) (QG 3) (Qj (Zd (Qc (YE 2 (Qy (JI K) (Qb (Qc (Qr QY (eOp 2) (Qc (Bs O1 (Qc (Qe (.int 1))))))) (Qb (eOp 3) Qi)))))) Qn)) (Qj (YB 2) Qn))))
noncomputable def Yh (K : W.Frag) : List D → FOut := Z1 4 [0, 1] (Jm K)
theorem K6 (g : Gr (gd p w B mg mb true)) : ZA (gd p w B mg mb true) 4 (.ref 209) (Yh (gd p w B mg mb true).K) :=
 fnI g 209 4 [0, 1] (f := Jm (gd p w B mg mb true).K) (Qa (exM (UY.of (mtd g 219 195 0 (UW g) (aC (nB 1) Qd)))) (Qa (asg 2 (Zj (vC (nV 1) Q0))) (Qa (J3 (xs := ["change"]) (Xp (atr g 219 0)) (tgN 3) (Qa (exM (HN 2 (UY.of (cF g 153 (CK g) (aC (Qh.of (sub (nB 2) (Qh.of (Jc (Qh.of Qt) Dl)))) (aC (nB 3) Qd)))))) Qg)) (Qa (GY 2) Qg)))) (KD fun _ _ => by kernel_rfl)
noncomputable def Bu (K : W.Frag) : AEnv → Res Fl := (Qj (Qx 1 (Qy (Wz K) (Qb (Qc (Om 219 "bells" 0)) Qi))) (Qj (Qx 2 (EB 219 "lead" 0 (Yh K) (Qb (eOp 1) Qi))) (Qj (DC 3) (Qj (ZI (WA (Q3 2)) (Xg [4, 5]) (Qj (ZI (WA (Q3 2)) (Xg [6, 7]) (Qj (Qx 8 (Qy (XZ K) (Qb (eOp 5) (Qb (Qc (Qy (JN K) (Qb (eOp 7) Qi))) Qi)))) (Qj (sIf (JY (Di true (eOp 8) 3) (JY (eOr (QD neI (eOp 8) (eOp 1)) (eOr (QD ltI (eOp 4) (eOp 6)) Xm)) Yk)) (Qj (Uf 3 (eOp 8) (YL (QH (Q3 4) (QH (Q3 6) Zg)))) Qn) Qn) Qn))) Qn)) (Qj (Zq (Z7 [none, none, some 3] (Q4 (JL 3)) (QG 1) Uj (YL (QH (Q3 1) (QH (Qr QY (Qc (Ki 2 (eOp 1))) (Qc (Qe (.int 0)))) (QH (Qr QY (Qc (Ki 2 (eOp 1))) (Qc (Qe (.int 1)))) Zg)))))) Qn)))))
noncomputable def UO (K : W.Frag) : List D → FOut := Z1 9 [0] (Bu K)
theorem OK (g : Gr (gd p w B mg mb true)) : ZA (gd p w B mg mb true) 6 (.ref 139) (UO (gd p w B mg mb true).K) :=
 fnI g 139 9 [0] (f := Bu (gd p w B mg mb true).K) (Qa (asg 1 (cF g 122 (Ep g) (aC (Qh.of (atr g 219 0)) Qd))) (Qa (asg 2 (mtd g 219 209 0 (K6 g) (aC (nB 1) Qd))) (Qa (VG g.ok (i := 3) (hk := .inr (by kernel_rfl))) (Qa (J3 (xs := ["i", "row"]) (enu g (nV 2)) (Hu 4 5) (Qa (J3 (xs := ["j", "other"]) (enu g (nV 2)) (Hu 6 7) (Qa (asg 8 (cF g 127 (Ci g) (aC (nB 5) (aC (Qh.of (cF g 134 (Gi g) (aC (nB 7) Qd))) Qd)))) (Qa (Xj (QT (UJ (Cj (i := 3) (nB 8)) (UJ (QT (QL (JQ (nB 8) (nB 1) Oi) (QL (JQ (nB 4) (nB 6) VI) QU))) Wb))) (Qa (Vz (i := 3) (nB 8) (Z6 (vC (nV 4) (vC (nV 6) Q0)))) Qg) Qg) Qg))) Qg)) (Qa (QC (lc [none, none, some 3] (Xp (Iq g 3)) (tgN 1) YF (Z6 (vC (nV 1) (vC (sub (Qh.of (BB (i := 2) (nB 1))) (Qh.of Qt)) (vC (sub (Qh.of (BB (i := 2) (nB 1))) (Qh.of Qt)) Q0)))))) Qg))))) (KT fun _ => by kernel_rfl)
noncomputable def Wt (K : W.Frag) : AEnv → Res Fl := (Qj (sIf (QD ltI (eOp 1) (Qc (QX Y2 (Qb (eOp 0) Qi)))) (Qj (Zq (Qr QY (eOp 0) (eOp 1))) Qn) Qn) (Qj (Zq (Qe (.int 0))) Qn))
noncomputable def Xc (K : W.Frag) : List D → FOut := Z1 2 [0, 1] (Wt K)
theorem ZF (g : Gr (gd p w B mg mb true)) : ZA (gd p w B mg mb true) 1 (.ref 230) (Xc (gd p w B mg mb true).K) :=
 fnI g 230 2 [0, 1] (f := Wt (gd p w B mg mb true).K) (Qa (Xj (JQ (nB 1) (Qh.of (cB g (.builtin "len") Zz (aC (nB 0) Qd))) VI) (Qa (QC (sub (nB 0) (nB 1))) Qg) Qg) (Qa (QC Qt) Qg)) (KD fun _ _ => by kernel_rfl)
noncomputable def Kc (K : W.Frag) : AEnv → Res Fl := (Qj (Zq (Qr Z3 (Qc (Qr Xz (Qc (Qr Xz (Qc (Qr Xz (Qc (Qr WZ (eOp 0) (Qc (Qe (.int 48271))))) (Qc (Qr WZ (Qc (Qr WZ (Qc (Qe (.int 7919))) (eOp 1))) (eOp 1))))) (Qc (Qr WZ (Qc (Qe (.int 104729))) (eOp 1))))) (Qc (Qe (.int 12345))))) (Qc (Qe (.int 2147483647))))) Qn)
noncomputable def Zm (K : W.Frag) : List D → FOut := Z1 2 [0, 1] (Kc K)
theorem Wl (g : Gr (gd p w B mg mb true)) : ZA (gd p w B mg mb true) 1 (.ref 237) (Zm (gd p w B mg mb true).K) :=
 fnI g 237 2 [0, 1] (f := Kc (gd p w B mg mb true).K) (Qa (QC (Qo (Qh.of (Qo (Qh.of (Qo (Qh.of (Qo (Qh.of (Qo (nB 0) (Qh.of Qt) WP)) (Qh.of (Qo (Qh.of (Qo (Qh.of Qt) (nB 1) WP)) (nB 1) WP)) Xw)) (Qh.of (Qo (Qh.of Qt) (nB 1) WP)) Xw)) (Qh.of Qt) Xw)) (Qh.of Qt) JV)) Qg) (KD fun _ _ => by kernel_rfl)
noncomputable def YC (K : W.Frag) : AEnv → Res Fl := (Qj (Qx 2 (Uq Zg)) (Qj (Qx 3 (Qe (.int 0))) (Qj (Ou 1000 (QD ltI (eOp 3) (Qc (Qr Va (eOp 1) (Qc (Qe (.int 1)))))) (Qj (sIf (QD gtI (Qc (Qr Z3 (Qc (Qr UT (Qc (Qy (Zm K) (Qb (eOp 0) (Qb (eOp 3) Qi)))) (Qc (Qe (.int 5))))) (Qc (Qe (.int 3))))) (Qc (Qe (.int 0)))) (Qj (Zd (Qc (YE 2 (Q3 3)))) (Qj (Qx 3 (Qr Xz (eOp 3) (Qc (Qe (.int 1))))) Qn)) Qn) (Qj (Qx 3 (Qr Xz (eOp 3) (Qc (Qe (.int 1))))) Qn))) (Qj (sIf (QD eqI (eOp 2) (Qc (Uq Zg))) (Qj (Qx 2 (Uq (QH (Qr Z3 (Qc (Qy (Zm K) (Qb (eOp 0) (Qb (Qc (Qe (.int 20))) Qi)))) (Qc (Qr Va (eOp 1) (Qc (Qe (.int 1)))))) Zg))) Qn) Qn) (Qj (Zq (QX Yc (Qb (eOp 2) Qi))) Qn)))))
noncomputable def XK (K : W.Frag) : List D → FOut := Z1 4 [0, 1] (YC K)
theorem OW (g : Gr (gd p w B mg mb true)) : ZA (gd p w B mg mb true) 2 (.ref 244) (XK (gd p w B mg mb true).K) :=
 fnI g 244 4 [0, 1] (f := YC (gd p w B mg mb true).K) (Qa (asg 2 (Zj Q0)) (Qa (asg 3 Qt) (Qa (Dy (JQ (nB 3) (Qh.of (Qo (nB 1) (Qh.of Qt) C8)) VI) (Qa (Xj (JQ (Qh.of (Qo (Qh.of (Qo (Qh.of (cF g 237 (Wl g) (aC (nB 0) (aC (nB 3) Qd)))) (Qh.of Qt) OR)) (Qh.of Qt) JV)) (Qh.of Qt) Hj) (Qa (exM (HN 2 (UY.of (nV 3)))) (Qa (asg 3 (Qo (nB 3) (Qh.of Qt) Xw)) Qg)) Qg) (Qa (asg 3 (Qo (nB 3) (Qh.of Qt) Xw)) Qg))) (Qa (Xj (JQ (nB 2) (Qh.of (Zj Q0)) WU) (Qa (asg 2 (Zj (vC (Qo (Qh.of (cF g 237 (Wl g) (aC (nB 0) (aC (Qh.of Qt) Qd)))) (Qh.of (Qo (nB 1) (Qh.of Qt) C8)) JV) Q0))) Qg) Qg) (Qa (QC (cB g (.type "tuple") (YS rfl) (aC (nB 2) Qd))) Qg))))) (KD fun _ _ => by kernel_rfl)
noncomputable def Wp (K : W.Frag) : AEnv → Res Fl := (Qj (Qx 2 (QX Yw (Qb (eOp 0) Qi))) (Qj (ZI (Q4 (Q3 1)) (QG 3) (Qj (Qx 2 (Qr Xz (Qc (Qr Xz (Qc (Zo (eOp 2) XY (YQ (eOp 3)))) (Qc (Uq (QH (Qr QY (eOp 2) (Qc (Qr Xz (eOp 3) (Qc (Qe (.int 1)))))) (QH (Qr QY (eOp 2) (eOp 3)) Zg)))))) (Qc (Zo (eOp 2) (YQ (Qc (Qr Xz (eOp 3) (Qc (Qe (.int 2)))))) XY)))) Qn)) (Qj (Zq (QX Yc (Qb (eOp 2) Qi))) Qn)))
noncomputable def Zy (K : W.Frag) : List D → FOut := Z1 4 [0, 1] (Wp K)
theorem Kk (g : Gr (gd p w B mg mb true)) : ZA (gd p w B mg mb true) 1 (.ref 251) (Zy (gd p w B mg mb true).K) :=
 fnI g 251 4 [0, 1] (f := Wp (gd p w B mg mb true).K) (Qa (asg 2 (cB g (.type "list") (JT rfl) (aC (nB 0) Qd))) (Qa (J3 (xs := ["_law_place"]) (Xp (nV 1)) (tgN 3) (Qa (asg 2 (Qo (Qh.of (Qo (Qh.of (Z4 (nB 2) Z0 (Z9 (nB 3)))) (Qh.of (Zj (vC (sub (nB 2) (Qh.of (Qo (nB 3) (Qh.of Qt) Xw))) (vC (sub (nB 2) (nB 3)) Q0)))) Xw)) (Qh.of (Z4 (nB 2) (Z9 (Qh.of (Qo (nB 3) (Qh.of Qt) Xw))) Z0)) Xw)) Qg)) (Qa (QC (cB g (.type "tuple") (YS rfl) (aC (nB 2) Qd))) Qg))) (KD fun _ _ => by kernel_rfl)
noncomputable def Wi (K : W.Frag) : AEnv → Res Fl := (Qj (Qx 2 (Uq (QH (Q3 0) Zg))) (Qj (ZI (Q4 (Q3 1)) (QG 3) (Qj (Zd (Qc (YE 2 (Qy (Zy K) (Qb (Qc (Qr QY (eOp 2) (Qc (Bs O1 (Qc (Qe (.int 1))))))) (Qb (eOp 3) Qi)))))) Qn)) (Qj (YB 2) Qn)))
noncomputable def Xy (K : W.Frag) : List D → FOut := Z1 4 [0, 1] (Wi K)
theorem UG (g : Gr (gd p w B mg mb true)) : ZA (gd p w B mg mb true) 2 (.ref 258) (Xy (gd p w B mg mb true).K) :=
 fnI g 258 4 [0, 1] (f := Wi (gd p w B mg mb true).K) (Qa (asg 2 (Zj (vC (nV 0) Q0))) (Qa (J3 (xs := ["_law_change_here"]) (Xp (nV 1)) (tgN 3) (Qa (exM (HN 2 (UY.of (cF g 251 (Kk g) (aC (Qh.of (sub (nB 2) (Qh.of (Jc (Qh.of Qt) Dl)))) (aC (nB 3) Qd)))))) Qg)) (Qa (GY 2) Qg))) (KD fun _ _ => by kernel_rfl)
noncomputable def Us (K : W.Frag) : AEnv → Res Fl := (Qj (ZI (Q4 (QX XT (Qb (Qc (QX Y2 (Qb (eOp 0) Qi))) Qi))) (QG 3) (Qj (ZI (Q4 (QX XT (Qb (Qc (QX Y2 (Qb (eOp 1) Qi))) Qi))) (QG 4) (Qj (sIf (JY (QD eqI (Qc (Qr QY (eOp 0) (eOp 3))) (Qc (Qr QY (eOp 1) (eOp 4)))) (JY (eOr (ZH (Q5 (eOp 2))) (eOr (QD ltI (eOp 3) (eOp 4)) Xm)) Yk)) (Qj (Zq (YL (QH (Q3 3) (QH (Q3 4) Zg)))) Qn) Qn) Qn)) Qn)) (Qj (Zq (Qe .none)) Qn))
noncomputable def Xe (K : W.Frag) : List D → FOut := Z1 5 [0, 1, 2] (Us K)
theorem WH (g : Gr (gd p w B mg mb true)) : ZA (gd p w B mg mb true) 1 (.ref 265) (Xe (gd p w B mg mb true).K) :=
 fnI g 265 5 [0, 1, 2] (f := Us (gd p w B mg mb true).K) (Qa (J3 (xs := ["_law_i"]) (Xp (cB g (.type "range") Zu (aC (Qh.of (cB g (.builtin "len") Zz (aC (nB 0) Qd))) Qd))) (tgN 3) (Qa (J3 (xs := ["_law_j"]) (Xp (cB g (.type "range") Zu (aC (Qh.of (cB g (.builtin "len") Zz (aC (nB 1) Qd))) Qd))) (tgN 4) (Qa (Xj (QT (UJ (JQ (Qh.of (sub (nB 0) (nB 3))) (Qh.of (sub (nB 1) (nB 4))) WU) (UJ (QT (QL (Xb (IC (nB 2))) (QL (JQ (nB 3) (nB 4) VI) QU))) Wb))) (Qa (QC (Z6 (vC (nV 3) (vC (nV 4) Q0)))) Qg) Qg) Qg)) Qg)) (Qa (QC Cr) Qg)) (HL fun _ _ _ => by kernel_rfl)
noncomputable def VL (K : W.Frag) : AEnv → Res Fl := (Qj (Qx 1 (Uq (QH (YL Zg) Zg))) (Qj (ZI (Q4 (QX XT (Qb (eOp 0) Qi))) (QG 2) (Qj (Qx 3 (Uq Zg)) (Qj (ZI (Q4 (Q3 1)) (QG 4) (Qj (Zd (Qc (KJ 3 (Z7 [none, none, some 2, some 4] (Q4 (QX XT (Qb (Qc (Qr Xz (eOp 2) (Qc (Qe (.int 1))))) Qi))) (QG 1) Uj (Qr Xz (Qc (Qr Xz (Qc (Zo (eOp 3) XY (YQ (eOp 1)))) (Qc (YL (QH (Q3 2) Zg))))) (Qc (Zo (eOp 3) (YQ (eOp 1)) XY))))))) Qn)) (Qj (Qx 1 (Q3 3)) Qn)))) (Qj (YB 1) Qn)))
noncomputable def YJ (K : W.Frag) : List D → FOut := Z1 5 [0] (VL K)
theorem C3 (g : Gr (gd p w B mg mb true)) : ZA (gd p w B mg mb true) 1 (.ref 270) (YJ (gd p w B mg mb true).K) :=
 fnI g 270 5 [0] (f := VL (gd p w B mg mb true).K) (Qa (asg 1 (Zj (vC (Z6 Q0) Q0))) (Qa (J3 (xs := ["_law_bell"]) (Xp (cB g (.type "range") Zu (aC (nB 0) Qd))) (tgN 2) (Qa (asg 3 (Zj Q0)) (Qa (J3 (xs := ["_law_row"]) (Xp (nV 1)) (tgN 4) (Qa (exM (IO 3 (lc [none, none, some 2, some 4] (Xp (cB g (.type "range") Zu (aC (Qh.of (Qo (nB 2) (Qh.of Qt) Xw)) Qd))) (tgN 1) YF (Qo (Qh.of (Qo (Qh.of (Z4 (nB 3) Z0 (Z9 (nB 1)))) (Qh.of (Z6 (vC (nV 2) Q0))) Xw)) (Qh.of (Z4 (nB 3) (Z9 (nB 1)) Z0)) Xw)))) Qg)) (Qa (asg 1 (nV 3)) Qg)))) (Qa (GY 1) Qg))) (KT fun _ => by kernel_rfl)
noncomputable def Um (K : W.Frag) : AEnv → Res Fl := (Qj (ZI (Q4 (Q3 0)) (QG 1) (Qj (sIf (eOr (ZH (Q5 (Qc (QX (QV K) (Qb (eOp 1) (Qb (Qc (Qe (.glob (.type "tuple")))) Qi)))))) (eOr (QD neI (Qc (QX Y2 (Qb (eOp 1) Qi))) (Qc (Qe (.int 3)))) (eOr (ZH (Q5 (Qc (QX (QV K) (Qb (Qc (Qr QY (eOp 1) (Qc (Qe (.int 0))))) (Qb (Qc (Qe (.glob (.type "tuple")))) Qi)))))) Xm))) (Qj (Zq (Qe (.bool false))) Qn) Qn) (Qj (ZI (Q4 (Qr Xz (Qc (Qr QY (eOp 1) (Qc (Qe (.int 0))))) (Qc (Zo (eOp 1) (YQ (Qc (Qe (.int 1)))) XY)))) (QG 2) (Qj (sIf (eOr (ZH (Q5 (Qc (QX (QV K) (Qb (eOp 2) (Qb (Qc (Qe (.glob (.type "int")))) Qi)))))) (eOr (Q5 (Qc (QX (QV K) (Qb (eOp 2) (Qb (Qc (Qe (.glob (.type "bool")))) Qi))))) Xm)) (Qj (Zq (Qe (.bool false))) Qn) Qn) Qn)) Qn))) (Qj (Zq (Qe (.bool true))) Qn))
noncomputable def Yo (K : W.Frag) : List D → FOut := Z1 3 [0] (Um K)
theorem Ba (g : Gr (gd p w B mg mb true)) : ZA (gd p w B mg mb true) 1 (.ref 277) (Yo (gd p w B mg mb true).K) :=
 fnI g 277 3 [0] (f := Um (gd p w B mg mb true).K) (Qa (J3 (xs := ["_law_one"]) (Xp (nV 0)) (tgN 1) (Qa (Xj (QT (QL (Xb (Y3 (Qh.of (cB g (.builtin "isinstance") (Q1 g.ok) (aC (nB 1) (aC (Qh.of (gB g (.type "tuple"))) Qd)))))) (QL (JQ (Qh.of (cB g (.builtin "len") Zz (aC (nB 1) Qd))) (Qh.of Qt) Oi) (QL (Xb (Y3 (Qh.of (cB g (.builtin "isinstance") (Q1 g.ok) (aC (Qh.of (sub (nB 1) (Qh.of Qt))) (aC (Qh.of (gB g (.type "tuple"))) Qd)))))) QU)))) (Qa (QC ZO) Qg) Qg) (Qa (J3 (xs := ["_law_number"]) (Xp (Qo (Qh.of (sub (nB 1) (Qh.of Qt))) (Qh.of (Z4 (nB 1) (Z9 (Qh.of Qt)) Z0)) Xw)) (tgN 2) (Qa (Xj (QT (QL (Xb (Y3 (Qh.of (cB g (.builtin "isinstance") (Q1 g.ok) (aC (nB 2) (aC (Qh.of (gB g (.type "int"))) Qd)))))) (QL (Y3 (Qh.of (cB g (.builtin "isinstance") (Q1 g.ok) (aC (nB 2) (aC (Qh.of (gB g (.type "bool"))) Qd))))) QU))) (Qa (QC ZO) Qg) Qg) Qg)) Qg))) (Qa (QC ZO) Qg)) (KT fun _ => by kernel_rfl)
noncomputable def Jr (K : W.Frag) : AEnv → Res Fl := (Qj (ZI (Gz (Zo (eOp 1) XY (YQ (eOp 2)))) (QG 3) (Qj (Qx 0 (Qy (Zy K) (Qb (eOp 0) (Qb (eOp 3) Qi)))) Qn)) (Qj (YB 0) Qn))
noncomputable def Za (K : W.Frag) : List D → FOut := Z1 4 [0, 1, 2] (Jr K)
theorem Og (g : Gr (gd p w B mg mb true)) : ZA (gd p w B mg mb true) 2 (.ref 284) (Za (gd p w B mg mb true).K) :=
 fnI g 284 4 [0, 1, 2] (f := Jr (gd p w B mg mb true).K) (Qa (J3 (xs := ["_law_change_here"]) (rvI g (Z4 (nB 1) Z0 (Z9 (nB 2)))) (tgN 3) (Qa (asg 0 (cF g 251 (Kk g) (aC (nB 0) (aC (nB 3) Qd)))) Qg)) (Qa (GY 0) Qg)) (HL fun _ _ _ => by kernel_rfl)
noncomputable def Jl (K : W.Frag) : AEnv → Res Fl := (Qj (sIf (eOr (ZH (Q5 (Qc (QX (QV K) (Qb (eOp 1) (Qb (Qc (Qe (.glob (.type "tuple")))) Qi)))))) (eOr (QD eqI (Qc (QX Y2 (Qb (eOp 1) Qi))) (Qc (Qe (.int 0)))) Xm)) (Qj (fun _ => .stuck) Qn) Qn) (Qj (Qx 2 (Bs O1 (Qc (Qe (.int 2))))) (Qj (ZI (Q4 (Q3 1)) (QG 3) (Qj (sIf (eOr (ZH (Q5 (Qc (Qy (XX K) (Qb (eOp 3) Qi))))) (eOr (ZH (YK leI leI (Qc (Qr Xz (eOp 2) (Qc (Qe (.int 2))))) (eOp 3) (Qc (Qr Va (eOp 0) (Qc (Qe (.int 2))))))) Xm)) (Qj (fun _ => .stuck) Qn) Qn) (Qj (Qx 2 (Q3 3)) Qn))) Qn)))
noncomputable def Zw (K : W.Frag) : List D → FOut := Z1 4 [0, 1] (Jl K)
theorem OP (g : Gr (gd p w B mg mb true)) : ZA (gd p w B mg mb true) 2 (.ref 146) (Zw (gd p w B mg mb true).K) :=
 fnI g 146 4 [0, 1] (f := Jl (gd p w B mg mb true).K) (Qa (Xj (QT (QL (Xb (Y3 (Qh.of (cB g (.builtin "isinstance") (Q1 g.ok) (aC (nB 1) (aC (Qh.of (gB g (.type "tuple"))) Qd)))))) (QL (JQ (Qh.of (cB g (.builtin "len") Zz (aC (nB 1) Qd))) (Qh.of Qt) WU) QU))) (Qa Zi Qg) Qg) (Qa (asg 2 (Jc (Qh.of Qt) Dl)) (Qa (J3 (xs := ["place"]) (Xp (nV 1)) (tgN 3) (Qa (Xj (QT (QL (Xb (Y3 (Qh.of (cF g 89 (UA g) (aC (nB 3) Qd))))) (QL (Xb (chT (Qh.of (Qo (nB 2) (Qh.of Qt) Xw)) (nB 3) (Qh.of (Qo (nB 0) (Qh.of Qt) C8)) Km Km)) QU))) (Qa Zi Qg) Qg) (Qa (asg 2 (nV 3)) Qg))) Qg))) (KD fun _ _ => by kernel_rfl)
noncomputable def Jx (K : W.Frag) : AEnv → Res Fl := (Qj (Zd (Qc (Qy (ZX K) (Qb (eOp 1) Qi)))) (Qj (sIf (eOr (ZH (Q5 (Qc (QX (QV K) (Qb (eOp 2) (Qb (Qc (Qe (.glob (.type "list")))) Qi)))))) (eOr (QD gtI (Qc (QX Y2 (Qb (eOp 2) Qi))) (Qc (Qe (.int 30)))) Xm)) (Qj (fun _ => .stuck) Qn) Qn) (Qj (sIf (eOr (ZH (Q5 (Qc (QX (QV K) (Qb (eOp 3) (Qb (Qc (Qe (.glob (.type "list")))) Qi)))))) (eOr (ZH (YK leI leI (Qc (Qe (.int 1))) (Qc (QX Y2 (Qb (eOp 3) Qi))) (Qc (Qe (.int 4))))) Xm)) (Qj (fun _ => .stuck) Qn) Qn) (Qj (ZI (Q4 (Qr Xz (eOp 2) (eOp 3))) (QG 4) (Qj (Zd (Qc (Qy (Zw K) (Qb (eOp 1) (Qb (eOp 4) Qi))))) Qn)) Qn))))
noncomputable def Jn (K : W.Frag) : List (Str × (AEnv → Res T)) := [("bells", (Q3 1)), ("steps", (QX Yw (Qb (eOp 2) Qi))), ("ways", (QX Yw (Qb (eOp 3) Qi)))]
noncomputable def JK (K : W.Frag) : Addr → List D → IOut := B7 5 [0, 1, 2, 3] 0 (Jx K) (Jn K)
theorem OL (g : Gr (gd p w B mg mb true)) : Wo (gd p w B mg mb true) 3 (.ref 167) 219 ["bells", "steps", "ways"] (JK (gd p w B mg mb true).K) :=
 IU g 167 5 [0, 1, 2, 3] 0 219 "self" (f := Jx (gd p w B mg mb true).K) (ts := Jn (gd p w B mg mb true).K) (.cons (Z5 (Qh.of (cF g 96 (U8 g) (aC (nB 1) Qd))) (fun _ => rfl)) (.cons (Xj (QT (QL (Xb (Y3 (Qh.of (cB g (.builtin "isinstance") (Q1 g.ok) (aC (nB 2) (aC (Qh.of (gB g (.type "list"))) Qd)))))) (QL (JQ (Qh.of (cB g (.builtin "len") Zz (aC (nB 2) Qd))) (Qh.of (gI g 30 374)) Hj) QU))) (Qa Zi Qg) Qg) (.cons (Xj (QT (QL (Xb (Y3 (Qh.of (cB g (.builtin "isinstance") (Q1 g.ok) (aC (nB 3) (aC (Qh.of (gB g (.type "list"))) Qd)))))) (QL (Xb (chT (Qh.of Qt) (Qh.of (cB g (.builtin "len") Zz (aC (nB 3) Qd))) (Qh.of (gI g 4 376)) Km Km)) QU))) (Qa Zi Qg) Qg) (.cons (J3 (xs := ["change"]) (Xp (Qo (nB 2) (nB 3) Xw)) (tgN 4) (Qa (Z5 (Qh.of (cF g 146 (OP g) (aC (nB 1) (aC (nB 4) Qd)))) (fun _ => rfl)) Qg)) .nil)))) (tC (nV 1) (tC (cB g (.type "list") (JT rfl) (aC (nB 2) Qd)) (tC (cB g (.type "list") (JT rfl) (aC (nB 3) Qd)) .nil))) (IK fun _ _ _ _ => by kernel_rfl)
noncomputable def E5 (K : W.Frag) : AEnv → Res Fl := (Qj (Qx 1 (Qr Xz (Qc (Qe (.int 3))) (Qc (Qr QY (Qc (Uq (QH (Qr Z3 (Qc (Qr UT (Qc (Qy (Xc K) (Qb (eOp 0) (Qb (Qc (Qe (.int 0))) Qi)))) (Qc (Qe (.int 2))))) (Qc (Qe (.int 2)))) (QH (Qr Z3 (Qc (Qr UT (Qc (Qy (Xc K) (Qb (eOp 0) (Qb (Qc (Qe (.int 0))) Qi)))) (Qc (Qe (.int 2))))) (Qc (Qe (.int 10)))) Zg)))) (Qc (Qr Z3 (Qc (Qy (Xc K) (Qb (eOp 0) (Qb (Qc (Qe (.int 0))) Qi)))) (Qc (Qe (.int 2))))))))) (Qj (Qx 2 (Qr Z3 (Qc (Qy (Xc K) (Qb (eOp 0) (Qb (Qc (Qe (.int 1))) Qi)))) (Qc (Qe (.int 8))))) (Qj (Qx 3 (Z7 [none, none, some 1, some 0] (Q4 (QX XT (Qb (eOp 2) Qi))) (QG 1) Uj (Qy (XK K) (Qb (Qc (Qy (Zm K) (Qb (Qc (Qy (Xc K) (Qb (eOp 3) (Qb (Qc (Qr Xz (Qc (Qe (.int 2))) (Qc (Qr Z3 (eOp 1) (Qc (Qe (.int 6))))))) Qi)))) (Qb (Qc (Qr UT (eOp 1) (Qc (Qe (.int 6))))) Qi)))) (Qb (eOp 2) Qi))))) (Qj (Qx 3 (KW (Qr Xz (eOp 3) (Qc (Zo (eOp 3) XY (YQ (Qc (Qr Z3 (Qc (Qr UT (Qc (Qy (Xc K) (Qb (eOp 0) (Qb (Qc (Qe (.int 1))) Qi)))) (Qc (Qe (.int 8))))) (Qc (Qe (.int 5))))))))))) (Qj (Qx 4 (Vq 219 ["bells", "steps", "ways"] (JK K) (Qb (eOp 1) (Qb (Qc (QX Yw (Qb (eOp 3) Qi))) (Qb (Qc (Uq (QH (YL (QH (Qe (.int 0)) Zg)) Zg))) Qi))))) (Qj (Qx 5 (Qy (UO K) (Qb (eOp 4) Qi))) (Qj (sIf (eOr (ZH (Q5 (Qc (QX (QV K) (Qb (eOp 5) (Qb (Qc (Qe (.glob (.type "list")))) Qi)))))) (eOr (ZH (Q5 (Qc (Qy (Yo K) (Qb (eOp 5) Qi))))) Xm)) (Qj (Zq (Qe (.bool false))) Qn) Qn) (Qj (Qx 6 (QX Yc (Qb (Qc (QX XT (Qb (eOp 1) Qi))) Qi))) (Qj (Qx 7 (Qy (Xy K) (Qb (eOp 6) (Qb (eOp 3) Qi)))) (Qj (DC 8) (Qj (ZI (Q4 (QX XT (Qb (Qc (QX Y2 (Qb (eOp 7) Qi))) Qi))) (QG 9) (Qj (ZI (Q4 (QX XT (Qb (Qc (QX Y2 (Qb (eOp 7) Qi))) Qi))) (QG 10) (Qj (Qx 11 (Qy (Za K) (Qb (Qc (Qr QY (eOp 7) (eOp 9))) (Qb (eOp 3) (Qb (eOp 10) Qi))))) (Qj (sIf (eOr (QD neI (eOp 11) (eOp 6)) (eOr (QD ltI (eOp 9) (eOp 10)) Xm)) (Qj (Uf 8 (eOp 11) (Qe (.bool true))) Qn) Qn) Qn))) Qn)) (Qj (sIf (Uy 5 (QD neI (Qc (Z7 [none, none] (Q4 (Q3 5)) (QG 1) Uj (Qr QY (eOp 1) (Qc (Qe (.int 0)))))) (Qc (JL 8)))) (Qj (Zq (Qe (.bool false))) Qn) Qn) (Qj (U2 5 (Xg [12, 9, 10]) (QD neI (Qc (YL (QH (Q3 9) (QH (Q3 10) Zg)))) (Qc (Qy (Xe K) (Qb (eOp 7) (Qb (Qc (Qy (Xy K) (Qb (eOp 12) (Qb (eOp 3) Qi)))) (Qb (Qc (Qr eqI (eOp 12) (eOp 6))) Qi))))))) (Qj (sIf (QD ltI (eOp 1) (Qc (Qe (.int 5)))) (Qj (ZI (Q4 (Qy (YJ K) (Qb (eOp 1) Qi))) (QG 12) (Qj (sIf (QD eqI (Qc (Qr isI (Qc (Qy (Xe K) (Qb (eOp 7) (Qb (Qc (Qy (Xy K) (Qb (eOp 12) (Qb (eOp 3) Qi)))) (Qb (Qc (Qr eqI (eOp 12) (eOp 6))) Qi))))) (Qc (Qe .none)))) (Qc (Ff false (eOp 12) 8))) (Qj (Zq (Qe (.bool false))) Qn) Qn) Qn)) Qn) Qn) (Qj (Qx 13 (QX Yw (Qb (eOp 5) Qi))) (Qj (Qx 14 (Qy (UO K) (Qb (eOp 4) Qi))) (Qj (Zd (Qc (K9 5))) (Qj (Zq (eBo .And (Qc (Qr eqI (Qc (Qy (UO K) (Qb (eOp 4) Qi))) (eOp 13))) (Qr eqI (eOp 14) (eOp 13)))) Qn))))))))))))))))))
noncomputable def BT (K : W.Frag) : List D → FOut := Z1 15 [0] (E5 K)
theorem HF (g : Gr (gd p w B mg mb true)) : ZA (gd p w B mg mb true) 7 (.ref 289) (BT (gd p w B mg mb true).K) := by
 refine fnI g 289 15 [0] (f := E5 (gd p w B mg mb true).K) ?_ (KT fun _ => by kernel_rfl)
 refine Qa ?_ ?_
 ·exact asg 1 (Qo (Qh.of Qt) (Qh.of (sub (Qh.of (Zj (vC (Qo (Qh.of (Qo (Qh.of (cF g 230 (ZF g) (aC (nB 0) (aC (Qh.of Qt) Qd)))) (Qh.of Qt) OR)) (Qh.of Qt) JV) (vC (Qo (Qh.of (Qo (Qh.of (cF g 230 (ZF g) (aC (nB 0) (aC (Qh.of Qt) Qd)))) (Qh.of Qt) OR)) (Qh.of Qt) JV) Q0)))) (Qh.of (Qo (Qh.of (cF g 230 (ZF g) (aC (nB 0) (aC (Qh.of Qt) Qd)))) (Qh.of Qt) JV)))) Xw)
 refine Qa ?_ ?_
 ·exact asg 2 (Qo (Qh.of (cF g 230 (ZF g) (aC (nB 0) (aC (Qh.of Qt) Qd)))) (Qh.of Qt) JV)
 refine Qa ?_ ?_
 ·exact IG 3 [none, none, some 1, some 0] (Xp (cB g (.type "range") Zu (aC (nB 2) Qd))) (tgN 1) YF (cF g 244 (OW g) (aC (Qh.of (cF g 237 (Wl g) (aC (Qh.of (cF g 230 (ZF g) (aC (nB 3) (aC (Qh.of (Qo (Qh.of Qt) (Qh.of (Qo (nB 1) (Qh.of Qt) JV)) Xw)) Qd)))) (aC (Qh.of (Qo (nB 1) (Qh.of Qt) OR)) Qd)))) (aC (nB 2) Qd)))
 refine Qa ?_ ?_
 ·exact asg 3 (Ee (Qo (nB 3) (Qh.of (Z4 (nB 3) Z0 (Z9 (Qh.of (Qo (Qh.of (Qo (Qh.of (cF g 230 (ZF g) (aC (nB 0) (aC (Qh.of Qt) Qd)))) (Qh.of Qt) OR)) (Qh.of Qt) JV))))) Xw))
 refine Qa ?_ ?_
 ·refine asg _ ?_
  refine mak g 219 167 (OL g) ?_
  refine aC ?_ ?_
  ·exact nB 1
  refine aC ?_ ?_
  ·exact Qh.of (cB g (.type "list") (JT rfl) (aC (nB 3) Qd))
  refine aC ?_ ?_
  ·refine Qh.of ?_
   refine Zj ?_
   refine vC ?_ ?_
   ·exact Z6 (vC Qt Q0)
   exact Q0
  exact Qd
 refine Qa ?_ ?_
 ·exact asg 5 (cF g 139 (OK g) (aC (nB 4) Qd))
 refine Qa ?_ ?_
 ·exact Xj (QT (QL (Xb (Y3 (Qh.of (cB g (.builtin "isinstance") (Q1 g.ok) (aC (nB 5) (aC (Qh.of (gB g (.type "list"))) Qd)))))) (QL (Xb (Y3 (Qh.of (cF g 277 (Ba g) (aC (nB 5) Qd))))) QU))) (Qa (QC ZO) Qg) Qg
 refine Qa ?_ ?_
 ·exact asg 6 (cB g (.type "tuple") (YS rfl) (aC (Qh.of (cB g (.type "range") Zu (aC (nB 1) Qd))) Qd))
 refine Qa ?_ ?_
 ·exact asg 7 (cF g 258 (UG g) (aC (nB 6) (aC (nB 3) Qd)))
 refine Qa ?_ ?_
 ·exact VG g.ok (i := 8)
 refine Qa ?_ ?_
 ·exact J3 (xs := ["_law_i"]) (Xp (cB g (.type "range") Zu (aC (Qh.of (cB g (.builtin "len") Zz (aC (nB 7) Qd))) Qd))) (tgN 9) (Qa (J3 (xs := ["_law_j"]) (Xp (cB g (.type "range") Zu (aC (Qh.of (cB g (.builtin "len") Zz (aC (nB 7) Qd))) Qd))) (tgN 10) (Qa (asg 11 (cF g 284 (Og g) (aC (Qh.of (sub (nB 7) (nB 9))) (aC (nB 3) (aC (nB 10) Qd))))) (Qa (Xj (QT (QL (JQ (nB 11) (nB 6) Oi) (QL (JQ (nB 9) (nB 10) VI) QU))) (Qa (Vz (i := 8) (nB 11) ZO) Qg) Qg) Qg))) Qg)
 refine Qa ?_ ?_
 ·exact Xj (H7 (x := "_law_found") 5 (JQ (Qh.of (lc [none, none] (Xp (nV 5)) (tgN 1) YF (sub (nB 1) (Qh.of Qt)))) (Qh.of (Iq g 8)) Oi)) (Qa (QC ZO) Qg) Qg
 refine Qa ?_ ?_
 ·exact Im 5 (nmC 12 (nmC 9 (nmC 10 nmN))) (JQ (Qh.of (Z6 (vC (nV 9) (vC (nV 10) Q0)))) (Qh.of (cF g 265 (WH g) (aC (nB 7) (aC (Qh.of (cF g 258 (UG g) (aC (nB 12) (aC (nB 3) Qd)))) (aC (Qh.of (Em (nB 12) (nB 6) WU)) Qd))))) Oi)
 refine Qa ?_ ?_
 ·exact Xj (JQ (nB 1) (Qh.of Qt) VI) (Qa (J3 (xs := ["_law_row"]) (Xp (cF g 270 (C3 g) (aC (nB 1) Qd))) (tgN 12) (Qa (Xj (JQ (Qh.of (Em (Qh.of (cF g 265 (WH g) (aC (nB 7) (aC (Qh.of (cF g 258 (UG g) (aC (nB 12) (aC (nB 3) Qd)))) (aC (Qh.of (Em (nB 12) (nB 6) WU)) Qd))))) (Qh.of Cr) Iz)) (Qh.of (Gh (i := 8) (nB 12))) WU) (Qa (QC ZO) Qg) Qg) Qg)) Qg) Qg
 refine Qa ?_ ?_
 ·exact asg 13 (cB g (.type "list") (JT rfl) (aC (nB 5) Qd))
 refine Qa ?_ ?_
 ·exact asg 14 (cF g 139 (OK g) (aC (nB 4) Qd))
 refine Qa ?_ ?_
 ·exact exM (IP 5)
 refine Qa ?_ ?_
 ·exact QC (ON (Ot (Qh.of (Em (Qh.of (cF g 139 (OK g) (aC (nB 4) Qd))) (nB 13) WU)) (Vl (Em (nB 14) (nB 13) WU))))
 exact Qg
end Mine
end

section
namespace Mine
open PySem PySem.W PyProof.Rows
theorem law09_enter (hlaw : ∀ (P : Params) (ns : List Int), ns.length ≤ 63 → BT (hd.heap_1 P) [.list (ns.map .int)] = .ok (.sh (.bool true))) : PySem.Challenge.rw_uf010040_09.Holds := by
 refine hd ?_
 intro w s₀ s₁ mg mb G Y a o pm cd doc dV kV ho hd' hcd hD hmg hg args vals as hpre hlay hrd hwl hlo
 have KX : (hd.heap_1 w.params).In s₁.heap := kIn_of Y
 have T := G.T
 have g : Gr (gd PySem.Challenge.rw_uf010040_09.row.toRowW.prog w s₁.heap mg mb true) := ⟨⟨T.g, T.b, T.nolimit, KX⟩, ⟨_, _, topRead_of T⟩, T.builtins⟩
 have e : mg "law" = some (.ref 289) := mg_of KX T.g (by kernel_rfl)
 have ea : a = 289 := by
  have h : mg "law" = some (.ref a) := hmg
  rw [e] at h
  cases h; rfl
 subst ea
 exact GI (l := PySem.Challenge.rw_uf010040_09) (HF g) (by decide) hg (n := 63) rfl rfl hpre hrd hwl (hlaw w.params)
end Mine
end

section
namespace Mine
open PySem PySem.W
theorem QZ {α : Type} {x : α} : some x = some x := rfl
theorem GQ : true = true := rfl
theorem Jk (K : Frag) (d : D) (h : GJ d = true) : XX K [d] = .ok (.sh (.bool (isW d))) := by
 cases d with
 | range _ _ _ => cases h
 | exc _ => cases h
 | glob _ => cases h
 | dict _ _ => cases h
 | obj _ _ _ => cases h
 | none => kernel_rfl
 | bool b => kernel_rfl
 | int i => kernel_rfl
 | str x => kernel_rfl
 | tup ds => kernel_rfl
 | list ds => kernel_rfl
theorem JZ (K : Frag) (d : D) (h : GJ d = true) : QV K [d, .glob (.type "tuple")] = some (.sh (.bool (match d with | .tup _ => true | _ => false))) := by
 cases d with
 | range _ _ _ => cases h
 | exc _ => cases h
 | glob _ => cases h
 | dict _ _ => cases h
 | obj _ _ _ => cases h
 | none => kernel_rfl
 | bool b => kernel_rfl
 | int i => kernel_rfl
 | str x => kernel_rfl
 | tup ds => kernel_rfl
 | list ds => kernel_rfl
theorem D7 (K : Frag) (i : Int) : QV K [.int i, .glob (.type "int")] = some (.sh (.bool true)) := by kernel_rfl
theorem CT (K : Frag) (i : Int) : QV K [.int i, .glob (.type "bool")] = some (.sh (.bool false)) := by kernel_rfl
theorem Ue (K : Frag) (n : Int) (h3 : 3 ≤ n) (h12 : n ≤ 12) : ZX K [.int n] = .ok (.sh .none) := by
 have e : XX K [.int n] = .ok (.sh (.bool true)) := Jk K (.int n) rfl
 have e1 := Kn h3
 have e2 := Kn h12
 unfold ZX JP
 refine' XB [some (.sh (.int n))] rfl rfl ?_ UD
 repeat' (first|(with_reducible first|assumption|exact QO|exact QK|exact QA|apply Qs|exact Zc|exact QQ|exact Qv|apply Qm|apply Q9|apply Qz|apply QE|apply Q8|apply X0|apply X6|apply Jz|apply Qw|apply Q6|apply IW|apply I1|apply I8|apply Lh|apply Lj|apply Lk|exact I9|apply Le|apply Li|apply Lq|apply Lu)|exact Q2 rfl|exact QZ|decide)
theorem Dt (K : Frag) (ds : List D) (hl : ds.length ≤ 1000000) (h : ∀ d ∈ ds, GJ d = true) : JA (QG 1) Uj (Qy (XX K) (Qb (eOp 1) Qi)) [none, none] ds [] = some (ds.map fun d => .bool (isW d)) := by
 refine UP ds (fun d hd => ?_) hl
 have e := Jk K d (h d hd)
 refine ⟨[none, some (.sh d)], .sh (.bool (isW d)), [none, some (.sh d)], rfl, ?_, rfl⟩
 repeat' (first|(with_reducible first|assumption|exact QA|apply Qs|apply Qm|apply QE|apply I1)|exact Q2 rfl|exact QZ|decide)
theorem Bo (g : D → Bool) (ds : List D) : UK (ds.map fun d => .bool (g d)) = some (ds.map g) := by
 have := CF (ds.map g)
 rwa [List.map_map] at this
theorem Hb (ns : List Int) : ∀ d ∈ iL ns, GJ d = true := fun d hd => by
 obtain ⟨i, _, rfl⟩ := List.mem_map.mp hd; rfl
theorem HO (ns : List Int) : (iL ns).all isW = true := List.all_eq_true.mpr fun d hd => by
 obtain ⟨i, _, rfl⟩ := List.mem_map.mp hd; rfl
theorem QF (ns : List Int) : (iL ns).length = ns.length := by simp [iL]
theorem O4 (K : Frag) (ns : List Int) (h3 : 3 ≤ ns.length) (h12 : ns.length ≤ 12) : YZ K [.tup (iL ns)] = .ok (.sh (.bool (eqB (Uo ns) (rng ns.length)))) := by
 have e' : QV K [.tup (iL ns), .glob (.type "tuple")] = some (.sh (.bool true)) := JZ K (.tup (iL ns)) rfl
 have hl : (iL ns).length ≤ 1000000 := by rw [QF]; exact omB h12
 have cw := Dt K (iL ns) hl (Hb ns)
 have e2 := WO hl
 rw [QF] at e2
 have e3 := Kn (show (3 : Int) ≤ ns.length by exact Int.ofNat_le.mpr h3)
 have e4 := Kn (show (ns.length : Int) ≤ 12 by exact Int.ofNat_le.mpr h12)
 have hw' : ((iL ns).map isW).all id = true := by rw [List.all_map]; exact HO ns
 have e5 : Hc [.list ((iL ns).map fun d => .bool (isW d))] = some (.sh (.bool true)) := by rw [GU (Bo _ _), ← hw']
 have e6 : KK [.tup (iL ns)] = some (.ow true (.list (iL (Uo ns)))) := Eo (ED ns) (by exact Nat.lt_of_le_of_lt h12 (by decide))
 have e7 : Yw [.range 0 ns.length 1] = some (.ow true (.list (iL (rng ns.length)))) := by rw [Gj (JU _ (by exact omB h12)), We]
 have e8 := BN (Uo ns) (rng ns.length)
 unfold YZ OQ
 refine' XB [some (.sh (.tup (iL ns)))] rfl rfl ?_ XE
 repeat' (first|(with_reducible first|assumption|exact QO|exact ZJ|exact QK|exact QA|apply Qs|exact Uv|apply Y9|exact Zc|exact Xo|exact QQ|exact Qv|exact XU|apply Qm|apply QM|apply QJ|apply XO|apply Qz|apply Xl|apply Q8|apply X0|apply X6|apply Jz|apply QR|apply Yq|apply Qw|apply Q6|apply XC|apply IW|apply IZ|apply IY|apply I0|apply I2|apply I3|apply I8|apply Lh|apply Lj|apply Lk|apply Ln|apply Lv|exact I9|apply Le|apply Li|apply Lq|exact Lr|apply Lu)|exact Xh rfl|exact QZ|decide)
structure Row (n : Nat) (ns : List Int) : Prop where
 perm : ns.Perm (rng n)
 h3 : 3 ≤ n
 h12 : n ≤ 12
theorem Row.len {n : Nat} {ns : List Int} (r : Row n ns) : ns.length = n := by rw [r.perm.length_eq, Yb]
theorem YD (K : Frag) {n : Nat} {ns : List Int} (r : Row n ns) : YZ K [.tup (iL ns)] = .ok (.sh (.bool true)) := by
 rw [O4 K ns (by rw [r.len]; exact r.h3) (by rw [r.len]; exact r.h12), r.len, Y6.mpr (EO.mpr r.perm)]
theorem Jq (K : Frag) (d : D) (h : YZ K [d] = .ok (.sh (.bool true))) : Z8 K [d] = .ok (.sh .none) := by
 unfold Z8 Wq
 refine' XB [some (.sh d)] rfl rfl ?_ UD
 repeat' (first|(with_reducible first|assumption|exact QO|exact QK|exact QA|apply Qs|exact Qv|apply Qm|apply Qz|apply QE|apply Q8|apply X0|apply Qw|apply Q6|apply IW|apply I1|apply I8|exact I9|apply Lq|apply Lu)|exact Q2 rfl|exact QZ|decide)
theorem Bf {n : Nat} {a : List Int} (r : Row n a) : Y2 [.tup (iL a)] = some (.sh (.int n)) := by
 have := WO (ds := iL a) (by rw [QF, r.len]; have := r.h12; exact omB this)
 rw [QF, r.len] at this; exact this
theorem Ob (K : Frag) {n : Nat} {a b : List Int} (ra : Row n a) (rb : Row n b) : Y8 K [.tup (iL a), .tup (iL b)] = .ok (.sh .none) := by
 have h1 := Jq K _ (YD K ra)
 have h2 := Jq K _ (YD K rb)
 have la := Bf ra
 have lb := Bf rb
 have e := Ga (n : Int)
 unfold Y8 UE
 refine' XB [some (.sh (.tup (iL a))), some (.sh (.tup (iL b)))] rfl rfl ?_ UD
 repeat' (first|(with_reducible first|assumption|exact QO|exact QK|exact QA|apply Qs|exact Qv|apply Qm|apply QW|apply Qz|apply Xl|apply QE|apply Qw|apply Q6|apply Xu|apply IW|apply I0|apply I1|apply Lf|apply Lg|apply Lw|apply Lq|apply Lu)|exact Q2 rfl|exact QZ|decide)
theorem VO (n : Nat) (h : n ≤ 1000000) : Yc [.range 0 n 1] = some (.sh (.tup (iL (rng n)))) := by rw [Fb (JU _ h), We]
theorem Vo (n : Nat) (h : n ≤ 1000000) : Zb (.range 0 n 1) = some (iL (rng n)) := by rw [E7 (JU _ h), We]
theorem Bx (K : Frag) (n : Nat) (h3 : 3 ≤ n) (h12 : n ≤ 12) : Wz K [.int n] = .ok (.sh (.tup (iL (rng n)))) := by
 have h := Ue K n (by exact Int.ofNat_le.mpr h3) (by exact Int.ofNat_le.mpr h12)
 have e := VO n (by exact omB h12)
 unfold Wz Op
 refine' XB [some (.sh (.int n))] rfl rfl ?_ XE
 repeat' (first|(with_reducible first|assumption|exact QO|exact QK|exact QA|apply Qs|exact Xo|apply Qm|apply QJ|apply Qz|apply Xl|apply QE|apply Qw|apply XC|apply Xu|apply IW|apply I0|apply I1|apply I2|apply I3|apply Lv|apply Lw|apply Lq|exact Lr)|exact Q2 rfl|exact QZ|decide)
noncomputable def at' (a : List Int) (j : Int) : Int := a.getD j.toNat 0
theorem KQ {n : Nat} {i : Int} : i ∈ rng n ↔ 0 ≤ i ∧ i < n := by
 unfold rng
 rw [List.mem_map]
 constructor
 ·rintro ⟨k, hk, rfl⟩
  have := List.mem_range.mp hk
  (simpa using this)
 ·rintro ⟨h0, h1⟩
  exact ⟨i.toNat, List.mem_range.mpr (by omega), by exact Int.toNat_of_nonneg (by assumption)⟩
theorem Row.mem {n : Nat} {a : List Int} (r : Row n a) {i : Int} : i ∈ a ↔ 0 ≤ i ∧ i < n := by rw [r.perm.mem_iff]; exact KQ
theorem Wh {a : List Int} {j : Nat} (h : j < a.length) : (iL a)[j]? = some (.int (a.getD j 0)) := by
 unfold iL
 rw [List.getElem?_map, List.getElem?_eq_getElem h, List.getD_eq_getElem?_getD, List.getElem?_eq_getElem h]; rfl
theorem Gk {a : List Int} {j : Int} (h0 : 0 ≤ j) (h1 : j < a.length) (hl : a.length ≤ 1000) : QY (.tup (iL a)) (.int j) = some (.sh (.int (at' a j))) :=
 By h0 (by lia) (Wh (by lia))
noncomputable def comp (a b : List Int) : List Int := b.map (at' a)
theorem FT {a b : List Int} (hb : ∀ j ∈ b, 0 ≤ j ∧ j < a.length) (hl : a.length ≤ 1000) (hl' : b.length ≤ 1000) : JA (QG 1) Uj (Qr QY (eOp 2) (eOp 1)) [none, none, some (.sh (.tup (iL a)))] (iL b) [] = some (iL (comp a b)) := by
 have := UP (b := QG 1) (f := Qr QY (eOp 2) (eOp 1)) (ρ₀ := [none, none, some (.sh (.tup (iL a)))]) (g := fun d => match d with | .int j => .int (at' a j) | _ => .none) (iL b) (fun d hd => ?_) (by rw [QF]; exact omB hl')
 ·rw [this]
  unfold iL comp
  rw [List.map_map, List.map_map]
  rfl
 ·obtain ⟨j, hj, rfl⟩ := List.mem_map.mp hd
  have e := Gk (hb j hj).1 (hb j hj).2 hl
  refine ⟨[none, some (.sh (.int j)), some (.sh (.tup (iL a)))], .sh (.int (at' a j)), [none, some (.sh (.int j)), some (.sh (.tup (iL a)))], rfl, ?_, rfl⟩
  repeat' (first|(with_reducible first|assumption|apply Ze|apply Q9|apply IY)|exact QZ|decide)
theorem ZZ {ds : List D} (h : ds.length ≤ 1000000) : Yc [.list ds] = some (.sh (.tup ds)) := E2 h
theorem Bw (a b : List Int) : (comp a b).length = b.length := by simp [comp]
theorem O6 (K : Frag) {n : Nat} {a b : List Int} (ra : Row n a) (rb : Row n b) : XZ K [.tup (iL a), .tup (iL b)] = .ok (.sh (.tup (iL (comp a b)))) := by
 have h := Ob K ra rb
 have := ra.h12
 have hb : ∀ j ∈ b, 0 ≤ j ∧ j < a.length := fun j hj => by have := rb.mem.mp hj; rw [ra.len]; exact this
 have e := FT hb (by rw [ra.len]; exact omB this) (by rw [rb.len]; exact omB this)
 have e2 := ZZ (ds := iL (comp a b)) (by rw [QF, Bw, rb.len]; exact omB this)
 unfold XZ Wm
 refine' XB [some (.sh (.tup (iL a))), some (.sh (.tup (iL b)))] rfl rfl ?_ XE
 have e3 : Zb (.tup (iL b)) = some (iL b) := rfl
 repeat' (first|(with_reducible first|assumption|exact QO|exact ZJ|exact QK|exact QA|apply Qs|exact Uv|apply Y9|apply UN|exact E8|exact Xo|apply Qm|apply QM|apply QJ|apply Qz|apply Xl|apply QE|apply QR|apply Yq|apply Qw|apply XC|apply Xu|apply IW|apply I0|apply I1|apply I2|apply I3|apply Ln|apply Lv|apply Lw|apply Lq|exact Lr)|exact Q2 rfl|exact Xh rfl|exact QZ|decide)
structure Inv (n : Nat) (a f : List Int) : Prop where
 len : f.length = n
 at_ : ∀ p : Nat, p < n → f[(a.getD p 0).toNat]? = some (p : Int)
theorem Row.nodup {n : Nat} {a : List Int} (r : Row n a) : a.Nodup := by
 rw [r.perm.nodup_iff]
 unfold rng List.Nodup
 rw [List.pairwise_map]
 exact (List.pairwise_lt_range (n := n)).imp fun h => by exact Int.ne_of_lt (Int.ofNat_lt.mpr h)
theorem Row.inj {n : Nat} {a : List Int} (r : Row n a) {p q : Nat} (hp : p < n) (hq : q < n) (h : a.getD p 0 = a.getD q 0) : p = q := by
 have hp' : p < a.length := by rw [r.len]; exact hp
 have hq' : q < a.length := by rw [r.len]; exact hq
 rw [List.getD_eq_getElem?_getD, List.getD_eq_getElem?_getD, List.getElem?_eq_getElem hp', List.getElem?_eq_getElem hq'] at h
 exact (List.getElem_inj r.nodup).mp h
theorem Row.surj {n : Nat} {a : List Int} (r : Row n a) {b : Nat} (hb : b < n) : ∃ p, p < n ∧ a.getD p 0 = (b : Int) := by
 have : (b : Int) ∈ a := r.mem.mpr ⟨by exact Int.ofNat_nonneg _, by exact Int.ofNat_lt.mpr hb⟩
 obtain ⟨p, hp, e⟩ := List.mem_iff_getElem.mp this
 exact ⟨p, by rw [← r.len]; exact hp, by rw [List.getD_eq_getElem?_getD, List.getElem?_eq_getElem hp]; exact e⟩
theorem Row.at_lt {n : Nat} {a : List Int} (r : Row n a) {p : Nat} (hp : p < n) : 0 ≤ a.getD p 0 ∧ a.getD p 0 < n := by
 have hp' : p < a.length := by rw [r.len]; exact hp
 refine r.mem.mp ?_
 rw [List.getD_eq_getElem?_getD, List.getElem?_eq_getElem hp']
 exact List.getElem_mem _
theorem Inv.uniq {n : Nat} {a f g : List Int} (r : Row n a) (hf : Inv n a f) (hg : Inv n a g) : f = g := by
 apply List.ext_getElem? 
 intro b
 by_cases hb : b < n
 ·obtain ⟨p, hp, e⟩ := r.surj hb
  have h1 := hf.at_ p hp
  have h2 := hg.at_ p hp
  rw [e] at h1 h2
  rw [Int.toNat_natCast] at h1 h2
  rw [h1, h2]
 ·rw [List.getElem?_eq_none (by rw [hf.len]; exact Nat.le_of_not_lt hb), List.getElem?_eq_none (by rw [hg.len]; exact Nat.le_of_not_lt hb)]
theorem Inv.comp1 {n : Nat} {a f : List Int} (r : Row n a) (hf : Inv n a f) : comp a f = rng n := by
 apply List.ext_getElem?
 intro b
 unfold comp rng
 rw [List.getElem?_map, List.getElem?_map]
 by_cases hb : b < n
 ·obtain ⟨p, hp, e⟩ := r.surj hb
  have h1 := hf.at_ p hp
  rw [e, Int.toNat_natCast] at h1
  rw [h1, List.getElem?_range hb]
  show some (at' a p) = some (b : Int)
  unfold at'
  rw [Int.toNat_natCast, e]
 ·rw [List.getElem?_eq_none (by rw [hf.len]; exact Nat.le_of_not_lt hb), List.getElem?_eq_none (by rw [List.length_range]; exact Nat.le_of_not_lt hb)]; rfl
theorem Inv.comp2 {n : Nat} {a f : List Int} (r : Row n a) (hf : Inv n a f) : comp f a = rng n := by
 apply List.ext_getElem?
 intro p
 unfold comp rng
 rw [List.getElem?_map, List.getElem?_map]
 by_cases hp : p < n
 ·have hp' : p < a.length := by rw [r.len]; exact hp
  have h1 := hf.at_ p hp
  rw [List.getD_eq_getElem?_getD, List.getElem?_eq_getElem hp'] at h1
  rw [List.getElem?_eq_getElem hp', List.getElem?_range hp]
  show some (at' f a[p]) = some (p : Int)
  unfold at'
  rw [List.getD_eq_getElem?_getD]
  show some ((f[a[p].toNat]?).getD 0) = _
  have h1' : f[a[p].toNat]? = some (p : Int) := h1
  rw [h1']; rfl
 ·rw [List.getElem?_eq_none (by rw [r.len]; exact Nat.le_of_not_lt hp), List.getElem?_eq_none (by rw [List.length_range]; exact Nat.le_of_not_lt hp)]; rfl
theorem WV {n : Nat} {f : List Int} (h : f.length = n) : comp f (rng n) = f := by
 apply List.ext_getElem?
 intro p
 unfold comp rng
 rw [List.map_map, List.getElem?_map]
 by_cases hp : p < n
 ·rw [List.getElem?_range hp, List.getElem?_eq_getElem (by (rw [h]; exact hp))]
  show some (at' f (p : Int)) = _
  unfold at'
  rw [Int.toNat_natCast, List.getD_eq_getElem?_getD, List.getElem?_eq_getElem (by (rw [h]; exact hp))]; rfl
 ·rw [List.getElem?_eq_none (by rw [List.length_range]; exact Nat.le_of_not_lt hp), List.getElem?_eq_none (by lia)]; rfl
theorem Inv.row {n : Nat} {a f : List Int} (r : Row n a) (hf : Inv n a f) : Row n f := by
 refine ⟨?_, r.h3, r.h12⟩
 have h1 := hf.comp2 r
 have h2 : (comp f a).Perm (comp f (rng n)) := r.perm.map _
 rw [h1, WV hf.len] at h2
 exact h2.symm
theorem DA (f : List Int) (j : Nat) (v : Int) : (iL f).set j (.int v) = iL (f.set j v) := by unfold iL; rw [List.map_set]
theorem Hw (n : Nat) : List.replicate n (D.int 0) = iL (List.replicate n 0) := by unfold iL; rw [List.map_replicate]
theorem Hd (n : Nat) (h : n ≤ 1000000) : WZ (.list [.int 0]) (.int n) = some (.ow true (.list (iL (List.replicate n 0)))) := by
 rw [HP (by lia), Int.toNat_natCast, Hw]
theorem ER {a : List Int} {m : Nat} (h : m < a.length) : (XW (iL a)).drop m = .tup [.int m, .int (a.getD m 0)] :: (XW (iL a)).drop (m + 1) := by
 have hl : m < (XW (iL a)).length := by unfold XW; rw [List.length_map, List.length_zipIdx, QF]; exact h
 rw [List.drop_eq_getElem_cons hl]
 congr 1
 have : (XW (iL a))[m]? = some (.tup [.int m, .int (a.getD m 0)]) := by
  unfold XW
  rw [List.getElem?_map, List.getElem?_zipIdx, Wh h]
  simp
 rw [List.getElem?_eq_getElem hl] at this
 exact Option.some.inj this
theorem D8 {n : Nat} {a : List Int} (r : Row n a) : ∃ f v w, XF (Xg [2, 3]) (Qj (X5 1 (eOp 3) (Q3 2)) Qn) (XW (iL a)) [some (.sh (.tup (iL a))), some (.ow true (.list (iL (List.replicate n 0)))), none, none] = .ok .next [some (.sh (.tup (iL a))), some (.ow true (.list (iL f))), v, w] ∧ Inv n a f := by
 have hla := r.len
 have := r.h12
 obtain ⟨ρ', h1, m, f, v, w, rfl, hd, hf, hi⟩ := KM (b := Xg [2, 3]) (sf := Qj (X5 1 (eOp 3) (Q3 2)) Qn) (fun ρ ds => ∃ (m : Nat) (f : List Int) (v w : Option T), ρ = [some (.sh (.tup (iL a))), some (.ow true (.list (iL f))), v, w] ∧ ds = (XW (iL a)).drop m ∧ f.length = n ∧ ∀ q, q < m → q < n → f[(a.getD q 0).toNat]? = some (q : Int)) (by
  rintro ρ d ds ⟨m, f, v, w, rfl, hd, hf, hi⟩
  have hm : m < n := by
   by_cases hm : m < n
   ·exact hm
   ·rw [List.drop_eq_nil_of_le (by unfold XW; rw [List.length_map, List.length_zipIdx, QF]; lia)] at hd
    cases hd
  rw [ER (by (rw [hla]; exact hm))] at hd
  cases hd
  have hb := r.at_lt hm
  have hj : (0 : Int) ≤ a.getD m 0 ∧ a.getD m 0 < ((iL f).length : Int) := by rw [QF, hf]; exact hb
  have hl : (iL f).length ≤ 1000000 := by rw [QF]; exact Nat.le_trans (Nat.le_of_eq hf) (Nat.le_trans this (by decide))
  refine ⟨[some (.sh (.tup (iL a))), some (.ow true (.list (iL f))), some (.sh (.int m)), some (.sh (.int (a.getD m 0)))], [some (.sh (.tup (iL a))), some (.ow true (.list (iL (f.set (a.getD m 0).toNat m)))), some (.sh (.int m)), some (.sh (.int (a.getD m 0)))], rfl, ?_, m + 1, _, _, _, rfl, rfl, by rw [List.length_set]; exact hf, ?_⟩
  ·rw [← DA]
   repeat' (first|(with_reducible first|assumption|exact QO|exact B1|apply ZL|exact Qv|apply Q9|apply Qw|apply Oh|apply Lq)|exact Xh rfl|exact QZ|decide)
  ·intro q hq hqn
   by_cases e : q = m
   ·subst e
    rw [List.getElem?_set_self (by omega)]
   ·rw [List.getElem?_set_ne ?_]
    ·exact hi q (by exact Nat.lt_of_le_of_ne (Nat.le_of_lt_succ hq) e) hqn
    ·intro q2
     have h3 := r.at_lt hqn
     exact e (r.inj hqn hm (by lia))) (XW (iL a)) _ ⟨0, List.replicate n 0, none, none, rfl, rfl, by simp, fun q hq => absurd hq (Nat.not_lt_zero _)⟩
 refine ⟨f, v, w, h1, hf, fun p hp => ?_⟩
 have hm : n ≤ m := by
  have : (XW (iL a)).length - m = 0 := by rw [← List.length_drop, ← hd]; rfl
  unfold XW at this
  rw [List.length_map, List.length_zipIdx, QF] at this
  lia
 exact hi p (by exact Nat.lt_of_lt_of_le hp hm) hp
theorem Ex (K : Frag) {n : Nat} {a : List Int} (r : Row n a) : ∃ f, JN K [.tup (iL a)] = .ok (.sh (.tup (iL f))) ∧ Inv n a f := by
 have h := Jq K _ (YD K r)
 obtain ⟨f, v, w, h1, hi⟩ := D8 r
 have := r.h12
 refine ⟨f, ?_, hi⟩
 have e1 := Bf r
 have e2 := Hd n (by exact omB this)
 have e3 := ZZ (ds := iL f) (by rw [QF, hi.len]; exact omB this)
 unfold JN CM
 refine' XB [some (.sh (.tup (iL a))), none, none, none] rfl rfl ?_ XE
 repeat' (first|(with_reducible first|assumption|exact QO|exact ZJ|exact B1|exact QK|exact QA|apply Qs|exact U0|apply UZ|exact X7|exact Zr|apply Qm|apply XO|apply Qz|apply Xl|apply QE|apply XR|apply Jv|apply Bh|apply Qw|apply XC|apply Xu|apply Xf|apply Xx|apply IW|apply IZ|apply IY|apply I0|apply I1|apply I4|apply I5|apply I7|apply Lv|apply Lw|apply Lx|apply Ly|apply Lp QO|apply Lq|exact Lr)|exact Q2 rfl|exact Xh rfl|exact QZ|decide)
theorem Js (K : Frag) (ns : List Int) (k : Nat) (hl : ns.length ≤ 63) : Xc K [.list (iL ns), .int k] = .ok (.sh (.int (ns.getD k 0))) := by
 have e1 := Z2 (ds := iL ns) (by rw [QF]; exact omB hl)
 rw [QF] at e1
 unfold Xc Wt
 refine' XB [some (.sh (.list (iL ns))), some (.sh (.int k))] rfl rfl ?_ XE
 by_cases h : k < ns.length
 ·have e2 := VE (a := (k : Int)) (b := ns.length) (by exact Int.ofNat_lt.mpr h)
  have e3 : QY (.list (iL ns)) (.int k) = some (.sh (.int (ns.getD k 0))) := JH (by exact Int.ofNat_nonneg _) (by exact omI h (omB hl)) (by rw [Int.toNat_natCast]; exact Wh h)
  repeat' (first|(with_reducible first|assumption|exact QO|exact QK|exact QA|apply Qs|exact X7|exact Qv|apply Qm|apply Ze|apply Xs|apply Q9|apply Qz|apply Xl|apply Qw|apply Q6|apply XC|apply IW|apply IY|apply I0|apply Lf|apply Lv|apply Lq|exact Lr|apply Ls|apply Lu)|exact QZ|decide)
 ·have e2 := VH (a := (k : Int)) (b := ns.length) (by (exact_mod_cast h))
  rw [show ns.getD k 0 = 0 by rw [List.getD_eq_getElem?_getD, List.getElem?_eq_none (by exact Nat.le_of_not_lt h)]; rfl]
  repeat' (first|(with_reducible first|assumption|exact QO|exact QK|exact QA|apply Qs|exact X7|exact Qv|apply Qm|apply Ze|apply Xs|apply Q9|apply Qz|apply Xl|apply Qw|apply Q6|apply XC|apply IW|apply IY|apply I0|apply Lf|apply Lv|apply Lq|exact Lr|apply Ls|apply Lu)|exact QZ|decide)
noncomputable def mix (c k : Int) : Int := (c * 48271 + 7919 * k * k + 104729 * k + 12345).fmod 2147483647
theorem BG (a : Int) {b : Int} (h : 0 < b) : 0 ≤ a.fmod b := by rw [Int.fmod_eq_emod_of_nonneg _ (by exact Int.le_of_lt h)]; exact Int.emod_nonneg _ (by exact Int.ne_of_gt h)
theorem Ha (a : Int) {b : Int} (h : 0 < b) : a.fmod b < b := by rw [Int.fmod_eq_emod_of_nonneg _ (by exact Int.le_of_lt h)]; exact Int.emod_lt_of_pos _ h
theorem J7 (K : Frag) (c k : Int) (hk : small k = true) : Zm K [.int c, .int k] = .ok (.sh (.int (mix c k))) := by
 have e1 : WZ (.int (7919 * k)) (.int k) = some (.sh (.int (7919 * k * k))) := WL (by rw [hk, Bool.or_true])
 have e2 : WZ (.int 7919) (.int k) = some (.sh (.int (7919 * k))) := WL (by rw [hk, Bool.or_true])
 have e3 : WZ (.int 104729) (.int k) = some (.sh (.int (104729 * k))) := WL (by rw [hk, Bool.or_true])
 have e4 : WZ (.int c) (.int 48271) = some (.sh (.int (c * 48271))) := WL (by rw [Wx (b := 48271) (by decide), Bool.or_true])
 unfold Zm Kc
 refine' XB [some (.sh (.int c)), some (.sh (.int k))] rfl rfl ?_ XE
 unfold mix
 repeat' (first|(with_reducible first|assumption|exact QO|exact Yy|exact QK|exact Zc|apply Ve|apply ZS|apply XO|apply Q9|apply Qz|apply Qw|apply XC|apply Xn|apply WL|apply IW|apply IZ|apply IY|apply Lv|exact Lr)|exact QZ|decide)
theorem Bc (a : List Int) : neI (.tup (iL a)) (.tup (iL a)) = some (.sh (.bool false)) := by rw [Bn, Y6.mpr rfl]; rfl
theorem JG (a : Int) {n : Nat} (h : 0 < n) : ∃ p : Nat, a.fmod n = p ∧ p < n := by
 have h0 := BG a (b := n) (by exact Int.ofNat_lt.mpr h)
 have h1 := Ha a (b := n) (by exact Int.ofNat_lt.mpr h)
 exact ⟨(a.fmod n).toNat, by (rw [Int.toNat_of_nonneg h0]), by omega⟩
noncomputable def turn (n : Nat) (a : List Int) : List Int := (rng n).map fun b => ((rng n).filter fun k => eqZ (at' a k) b).headD 0
theorem Dd {n : Nat} {a : List Int} (r : Row n a) {p : Nat} (hp : p < n) : ∃ l, (rng n).filter (fun k => eqZ (at' a k) (a.getD p 0)) = (p : Int) :: l := by
 cases h : (rng n).filter (fun k => eqZ (at' a k) (a.getD p 0)) with
 | nil =>
  have := List.filter_eq_nil_iff.mp h p (KQ.mpr ⟨by exact Int.ofNat_nonneg _, by exact Int.ofNat_lt.mpr hp⟩)
  exact absurd (WI.mpr (by unfold at'; rw [Int.toNat_natCast])) this
 | cons x l =>
  have hx : x ∈ (rng n).filter (fun k => eqZ (at' a k) (a.getD p 0)) := by rw [h]; exact .head _
  obtain ⟨h1, h2⟩ := List.mem_filter.mp hx
  have h3 := KQ.mp h1
  have h4 := WI.mp h2
  unfold at' at h4
  have := r.inj (p := x.toNat) (q := p) (by omega) hp h4
  exact ⟨l, by rw [show x = (p : Int) by lia]⟩
theorem Ur {n : Nat} {a : List Int} (r : Row n a) : Inv n a (turn n a) := by
 refine ⟨by unfold turn; rw [List.length_map, Yb], fun p hp => ?_⟩
 obtain ⟨l, hl⟩ := Dd r hp
 have hb := r.at_lt hp
 unfold turn
 rw [List.getElem?_map, show (rng n)[(a.getD p 0).toNat]? = some (a.getD p 0) by
  unfold rng; rw [List.getElem?_map, List.getElem?_range (by omega)]; show some (((a.getD p 0).toNat : Nat) : Int) = some _; rw [Int.toNat_of_nonneg hb.1]]
 show some ((List.filter (fun k => eqZ (at' a k) (a.getD p 0)) (rng n)).headD 0) = some (p : Int)
 rw [hl]; rfl
noncomputable def Zx (n : Nat) : Nat → List Nat → Bool
 | _, [] => true
 | lo, p :: r => decide (lo ≤ p) && decide (p + 2 ≤ n) && Zx n (p + 2) r
structure Change (n : Nat) (cs : List Nat) : Prop where
 ne : cs ≠ []
 ok : Zx n 0 cs = true
noncomputable def nD (cs : List Nat) : List D := cs.map fun (p : Nat) => D.int p
theorem Ip (cs : List Nat) : nD cs = iL (cs.map fun (p : Nat) => (p : Int)) := by unfold nD iL; rw [List.map_map]; rfl
theorem Os {n : Nat} : ∀ {cs : List Nat} {lo : Nat}, Zx n lo cs = true → lo ≤ n → cs.length ≤ n - lo
 | [], _, _, _ => Nat.zero_le _
 | p :: r, lo, h, hl => by
  rw [Zx] at h
  simp only [Bool.and_eq_true, decide_eq_true_eq] at h
  have := Os h.2 (by lia)
  simp only [List.length_cons]; omega
theorem FU (cs : List Nat) : (nD cs).length = cs.length := by simp [nD]
noncomputable def swap (f : List Int) (p : Nat) : List Int := (f.set p (f.getD (p + 1) 0)).set (p + 1) (f.getD p 0)
noncomputable def rung (a : List Int) (cs : List Nat) : List Int := cs.foldl swap a
theorem Zs (f : List Int) (p : Nat) : (swap f p).length = f.length := by simp [swap]
theorem YM (a : List Int) (cs : List Nat) : (rung a cs).length = a.length := by
 unfold rung
 induction cs generalizing a with
 | nil => rfl
 | cons p r ih => rw [List.foldl_cons, ih, Zs]
theorem ZP {f : List Int} {p : Nat} (h : p + 1 < f.length) (i : Nat) : (swap f p)[i]? = if i = p then f[p + 1]? else if i = p + 1 then f[p]? else f[i]? := by
 unfold swap
 by_cases h1 : i = p
 ·subst h1
  rw [if_pos rfl, List.getElem?_set_ne (by (simpa using h)), List.getElem?_set_self (by exact Nat.lt_of_succ_lt h), List.getD_eq_getElem?_getD, List.getElem?_eq_getElem h]; rfl
 ·rw [if_neg h1]
  by_cases h2 : i = p + 1
  ·subst h2
   rw [if_pos rfl, List.getElem?_set_self (by rw [List.length_set]; omega), List.getD_eq_getElem?_getD, List.getElem?_eq_getElem (by exact Nat.lt_of_succ_lt h : p < f.length)]; rfl
  ·rw [if_neg h2, List.getElem?_set_ne (by exact Ne.symm h2), List.getElem?_set_ne (by exact Ne.symm h1)]
theorem Et {f : List Int} {p : Nat} (h : p + 1 < f.length) : swap (swap f p) p = f := by
 apply List.ext_getElem?
 intro i
 rw [ZP (by rw [Zs]; exact h), ZP h, ZP h, ZP h]
 by_cases h1 : i = p
 ·subst h1; rw [if_pos rfl, if_neg (by (simpa using h)), if_pos rfl]
 ·rw [if_neg h1]
  by_cases h2 : i = p + 1
  ·subst h2; rw [if_pos rfl, if_pos rfl]
  ·rw [if_neg h2, if_neg h1, if_neg h2]
theorem Eb {f : List Int} {p q : Nat} (h : p + 2 ≤ q) (hq : q + 1 < f.length) : swap (swap f p) q = swap (swap f q) p := by
 have hp : p + 1 < f.length := by lia
 have hA : q + 1 < (swap f p).length := by rw [Zs]; exact hq
 have hB : p + 1 < (swap f q).length := by rw [Zs]; exact hp
 apply List.ext_getElem?
 intro i
 rw [ZP hA, ZP hB]
 simp only [ZP hp, ZP hq]
 repeat' split
 all_goals first | rfl | (exfalso; lia) | (subst_vars; rfl)
theorem Vy {n p : Nat} : ∀ {cs : List Nat} {lo : Nat} {f : List Int}, f.length = n → Zx n lo cs = true → p + 2 ≤ lo → rung (swap f p) cs = swap (rung f cs) p
 | [], _, _, _, _, _ => rfl
 | q :: r, lo, f, hf, h, hp => by
  rw [Zx] at h
  simp only [Bool.and_eq_true, decide_eq_true_eq] at h
  show rung (swap (swap f p) q) r = swap (rung (swap f q) r) p
  rw [Eb (by lia) (by lia), Vy (by rw [Zs]; exact hf) h.2 (by lia)]
theorem VC {n : Nat} : ∀ {cs : List Nat} {lo : Nat} {f : List Int}, f.length = n → Zx n lo cs = true → rung (rung f cs) cs = f
 | [], _, _, _, _ => rfl
 | q :: r, lo, f, hf, h => by
  rw [Zx] at h
  simp only [Bool.and_eq_true, decide_eq_true_eq] at h
  show rung (swap (rung (swap f q) r) q) r = f
  rw [← Vy (by rw [Zs]; exact hf) h.2 (Nat.le_refl _), Et (by lia), VC hf h.2]
theorem EQ {f : List Int} {p : Nat} (h : p + 1 < f.length) : (swap f p).Perm f := by
 induction p generalizing f with
 | zero =>
  match f, h with
  | x :: y :: l, _ => exact List.Perm.swap _ _ _
 | succ p ih =>
  match f, h with
  | x :: l, h =>
   have : swap (x :: l) (p + 1) = x :: swap l p := by unfold swap; simp
   rw [this]
   exact (ih (by simpa using h)).cons x
theorem Vb {n : Nat} : ∀ {cs : List Nat} {lo : Nat} {f : List Int}, f.length = n → Zx n lo cs = true → (rung f cs).Perm f
 | [], _, _, _, _ => .refl _
 | q :: r, lo, f, hf, h => by
  rw [Zx] at h
  simp only [Bool.and_eq_true, decide_eq_true_eq] at h
  exact (Vb (f := swap f q) (by rw [Zs]; exact hf) h.2).trans (EQ (by lia))
theorem Row.rung {n : Nat} {a : List Int} {cs : List Nat} (r : Row n a) (h : Zx n 0 cs = true) : Row n (rung a cs) := ⟨(Vb r.len h).trans r.perm, r.h3, r.h12⟩
theorem Bk (K : Frag) {n : Nat} {a : List Int} {dch : D} (ha : a.length = n) (hn : n ≤ 12) {cs : List Nat} (h : Zx n 0 cs = true) : ∃ v, XF (QG 3) (Qj (X5 2 (eOp 3) (Qr QY (eOp 0) (Qc (Qr Xz (eOp 3) (Qc (Qe (.int 1))))))) (Qj (X5 2 (Qc (Qr Xz (eOp 3) (Qc (Qe (.int 1))))) (Qr QY (eOp 0) (eOp 3))) Qn)) (nD cs) [some (.sh (.tup (iL a))), some (.sh dch), some (.ow true (.list (iL a))), none] = .ok .next [some (.sh (.tup (iL a))), some (.sh dch), some (.ow true (.list (iL (rung a cs)))), v] := by
 obtain ⟨ρ', h1, f, cs', v, lo, rfl, hd, hf, hr, hc, hg⟩ := KM (b := QG 3) (sf := (Qj (X5 2 (eOp 3) (Qr QY (eOp 0) (Qc (Qr Xz (eOp 3) (Qc (Qe (.int 1))))))) (Qj (X5 2 (Qc (Qr Xz (eOp 3) (Qc (Qe (.int 1))))) (Qr QY (eOp 0) (eOp 3))) Qn))) (fun ρ ds => ∃ (f : List Int) (cs' : List Nat) (v : Option T) (lo : Nat), ρ = [some (.sh (.tup (iL a))), some (.sh dch), some (.ow true (.list (iL f))), v] ∧ ds = nD cs' ∧ f.length = n ∧ rung f cs' = rung a cs ∧ Zx n lo cs' = true ∧ ∀ i, lo ≤ i → f[i]? = a[i]?) (by
  rintro ρ d ds ⟨f, cs', v, lo, rfl, hd, hf, hr, hc, hg⟩
  cases cs' with
  | nil => cases hd
  | cons p r =>
   cases hd
   rw [Zx] at hc
   simp only [Bool.and_eq_true, decide_eq_true_eq] at hc
   have hp1 : p + 1 < f.length := by rw [hf]; exact hc.1.2
   have hp1a : p + 1 < a.length := by rw [ha]; exact hc.1.2
   have hp0 : p < f.length := Nat.lt_of_succ_lt hp1
   have hb : p + 1 ≤ 1000 := Nat.le_trans (Nat.le_of_succ_le hc.1.2) (FV hn)
   have hlf : (iL f).length ≤ 1000000 := by rw [QF, hf]; exact DR hn
   have e1 : QY (.tup (iL a)) (.int ((p : Int) + 1)) = some (.sh (.int (a.getD (p + 1) 0))) := BW (p := p + 1) hb (Wh hp1a)
   have e2 : QY (.tup (iL a)) (.int p) = some (.sh (.int (a.getD p 0))) := BW (Nat.le_of_succ_le hb) (Wh (Nat.lt_of_succ_lt hp1a))
   have e3 : (0 : Int) ≤ p ∧ (p : Int) < ((iL f).length : Int) := ⟨Int.natCast_nonneg p, by rw [QF]; exact Int.ofNat_lt.mpr hp0⟩
   have e4 : (0 : Int) ≤ (p : Int) + 1 ∧ (p : Int) + 1 < (((iL f).set (p : Int).toNat (.int (a.getD (p + 1) 0))).length : Int) := ⟨Int.natCast_nonneg (p + 1), by rw [List.length_set, QF]; exact Int.ofNat_lt.mpr hp1⟩
   have e5 : ((iL f).set (p : Int).toNat (.int (a.getD (p + 1) 0))).length ≤ 1000000 := by rw [List.length_set]; exact hlf
   have ep : a.getD p 0 = f.getD p 0 := by rw [List.getD_eq_getElem?_getD, List.getD_eq_getElem?_getD, hg p hc.1.1]
   have eq : a.getD (p + 1) 0 = f.getD (p + 1) 0 := by rw [List.getD_eq_getElem?_getD, List.getD_eq_getElem?_getD, hg (p + 1) (Nat.le_succ_of_le hc.1.1)]
   refine ⟨[some (.sh (.tup (iL a))), some (.sh dch), some (.ow true (.list (iL f))), some (.sh (.int p))], [some (.sh (.tup (iL a))), some (.sh dch), some (.ow true (.list (((iL f).set (p : Int).toNat (.int (a.getD (p + 1) 0))).set ((p : Int) + 1).toNat (.int (a.getD p 0))))), some (.sh (.int p))], rfl, ?_, swap f p, r, some (.sh (.int p)), p + 2, ?_, rfl, by rw [Zs]; exact hf, hr, hc.2, ?_⟩
   ·repeat' (first|(with_reducible first|assumption|exact QO|exact Yy|exact YX|exact QK|apply ZL|exact Qv|apply ZS|apply Ze|apply Q9|apply Qz|apply Qw|apply Oh|apply IW|apply IY|apply Lq)|exact QZ|decide)
   ·rw [DA, DA, show ((p : Int) + 1).toNat = p + 1 from rfl, Int.toNat_natCast, ep, eq]; rfl
   ·intro i hi
    rw [ZP hp1, if_neg (Nat.ne_of_gt (Nat.lt_of_succ_lt hi)), if_neg (Nat.ne_of_gt hi)]
    exact hg i (Nat.le_trans hc.1.1 (Nat.le_of_lt (Nat.lt_of_succ_lt hi)))) (nD cs) _ ⟨a, cs, none, 0, rfl, rfl, ha, rfl, h, fun i _ => rfl⟩
 have : cs' = [] := List.map_eq_nil_iff.mp hd.symm
 subst this
 have hr' : f = rung a cs := hr
 subst hr'
 exact ⟨v, h1⟩
theorem V6 (K : Frag) {n : Nat} {a : List Int} (ha : a.length = n) (hn : n ≤ 12) {cs : List Nat} (h : Zx n 0 cs = true) : JI K [.tup (iL a), .tup (nD cs)] = .ok (.sh (.tup (iL (rung a cs)))) := by
 obtain ⟨v, h1⟩ := Bk K (dch := .tup (nD cs)) ha hn h
 have e1 : Yw [.tup (iL a)] = some (.ow true (.list (iL a))) := DF (by rw [QF]; exact Nat.le_trans (Nat.le_of_eq ha) (Nat.le_trans hn (by decide)))
 have e2 := ZZ (ds := iL (rung a cs)) (by rw [QF, YM]; exact Nat.le_trans (Nat.le_of_eq ha) (Nat.le_trans hn (by decide)))
 have e3 : Zb (.tup (nD cs)) = some (nD cs) := rfl
 unfold JI Kb
 refine' XB [some (.sh (.tup (iL a))), some (.sh (.tup (nD cs))), none, none] rfl rfl ?_ XE
 repeat' (first|(with_reducible first|assumption|exact QO|exact YX|exact QA|apply Qs|apply Qm|apply Xl|apply QR|apply Qw|apply XC|apply Xf|apply Xx|apply I0|apply Ln|apply Lv|apply Lx|apply Ly|apply Lq|exact Lr)|exact Xh rfl|exact QZ|decide)
theorem EM {f : List Int} {p : Nat} (h : p + 1 < f.length) : f.take p ++ [f.getD (p + 1) 0, f.getD p 0] ++ f.drop (p + 2) = swap f p := by
 induction p generalizing f with
 | zero =>
  match f, h with
  | x :: y :: l, _ => rfl
 | succ p ih =>
  match f, h with
  | x :: l, h =>
   have : swap (x :: l) (p + 1) = x :: swap l p := by unfold swap; simp
   rw [this, ← ih (by simpa using h)]
   rfl
theorem EX {f : List Int} {p : Nat} (h : p + 1 < f.length) : (iL f).take p ++ [.int (f.getD (p + 1) 0), .int (f.getD p 0)] ++ (iL f).drop (p + 2) = iL (swap f p) := by
 rw [← EM h]
 unfold iL
 simp
theorem Ev (K : Frag) {n : Nat} {a : List Int} {da dch : D} (ha : a.length = n) (hn : n ≤ 12) {cs : List Nat} (h : Zx n 0 cs = true) : ∃ v, XF (QG 3) (Qj (Qx 2 (Qr Xz (Qc (Qr Xz (Qc (Zo (eOp 2) XY (YQ (eOp 3)))) (Qc (Uq (QH (Qr QY (eOp 2) (Qc (Qr Xz (eOp 3) (Qc (Qe (.int 1)))))) (QH (Qr QY (eOp 2) (eOp 3)) Zg)))))) (Qc (Zo (eOp 2) (YQ (Qc (Qr Xz (eOp 3) (Qc (Qe (.int 2)))))) XY)))) Qn) (nD cs) [some (.sh da), some (.sh dch), some (.ow true (.list (iL a))), none] = .ok .next [some (.sh da), some (.sh dch), some (.ow true (.list (iL (rung a cs)))), v] := by
 obtain ⟨ρ', h1, f, cs', v, lo, rfl, hd, hf, hr, hc⟩ := KM (b := QG 3) (sf := (Qj (Qx 2 (Qr Xz (Qc (Qr Xz (Qc (Zo (eOp 2) XY (YQ (eOp 3)))) (Qc (Uq (QH (Qr QY (eOp 2) (Qc (Qr Xz (eOp 3) (Qc (Qe (.int 1)))))) (QH (Qr QY (eOp 2) (eOp 3)) Zg)))))) (Qc (Zo (eOp 2) (YQ (Qc (Qr Xz (eOp 3) (Qc (Qe (.int 2)))))) XY)))) Qn)) (fun ρ ds => ∃ (f : List Int) (cs' : List Nat) (v : Option T) (lo : Nat), ρ = [some (.sh da), some (.sh dch), some (.ow true (.list (iL f))), v] ∧ ds = nD cs' ∧ f.length = n ∧ rung f cs' = rung a cs ∧ Zx n lo cs' = true) (by
  rintro ρ d ds ⟨f, cs', v, lo, rfl, hd, hf, hr, hc⟩
  cases cs' with
  | nil => cases hd
  | cons p r =>
   cases hd
   rw [Zx] at hc
   simp only [Bool.and_eq_true, decide_eq_true_eq] at hc
   have hl : (iL f).length = n := by rw [QF]; exact hf
   have hp2 : p + 2 ≤ n := hc.1.2
   have hp1 : p + 1 < f.length := by rw [hf]; exact hp2
   have hb : p + 1 ≤ 1000 := Nat.le_trans (Nat.le_of_succ_le hp2) (FV hn)
   have hlb : (iL f).length ≤ 1000000 := by rw [hl]; exact DR hn
   have hpn : p ≤ (iL f).length := by rw [hl]; exact Nat.le_trans (Nat.le_add_right p 2) hp2
   have e1 : QY (.list (iL f)) (.int ((p : Int) + 1)) = some (.sh (.int (f.getD (p + 1) 0))) := Vs (p := p + 1) hb (Wh hp1)
   have e2 : QY (.list (iL f)) (.int p) = some (.sh (.int (f.getD p 0))) := Vs (Nat.le_of_succ_le hb) (Wh (Nat.lt_of_succ_lt hp1))
   have e3 : Uk (.list (iL f)) none (some (p : Int)) = some (.ow true (.list ((iL f).take p))) := by rw [Ox hlb, F3 hpn]
   have e4 : Uk (.list (iL f)) (some ((p : Int) + 2)) none = some (.ow true (.list ((iL f).drop (p + 2)))) := by
    rw [Ox hlb, show ((p : Int) + 2) = ((p + 2 : Nat) : Int) from rfl, Fz (by rw [hl]; exact hp2)]
   have l1 : ((iL f).take p).length = p := by rw [List.length_take]; exact Nat.min_eq_left hpn
   have l2 : ((iL f).drop (p + 2)).length = n - (p + 2) := by rw [List.length_drop, hl]
   have e5 : Xz (.list ((iL f).take p)) (.list [.int (f.getD (p + 1) 0), .int (f.getD p 0)]) = some (.ow true (.list ((iL f).take p ++ [.int (f.getD (p + 1) 0), .int (f.getD p 0)]))) := Bl (by rw [l1]; exact Nat.le_trans hp2 (DR hn))
   have e6 : Xz (.list ((iL f).take p ++ [.int (f.getD (p + 1) 0), .int (f.getD p 0)])) (.list ((iL f).drop (p + 2))) = some (.ow true (.list (iL (swap f p)))) := by
    rw [Bl (by rw [l2, List.length_append, l1]; show p + 2 + (n - (p + 2)) ≤ 1000000; rw [Nat.add_sub_cancel' hp2]; exact DR hn), EX hp1]
   refine ⟨[some (.sh da), some (.sh dch), some (.ow true (.list (iL f))), some (.sh (.int p))], [some (.sh da), some (.sh dch), some (.ow true (.list (iL (swap f p)))), some (.sh (.int p))], rfl, ?_, swap f p, r, _, p + 2, rfl, rfl, by rw [Zs]; exact hf, hr, hc.2⟩
   repeat' (first|(with_reducible first|assumption|exact QO|exact ZJ|exact Yy|exact YX|exact QK|exact U0|apply UZ|exact Zr|exact Ye|exact Qv|apply ZS|apply Ze|apply XO|apply Q9|apply Qz|apply XR|apply Jv|apply JM|apply YV|apply Qw|apply Xf|apply IW|apply IZ|apply IY|apply I4|apply I5|apply I7|apply Lx|apply Lq)|exact QZ|decide)) (nD cs) _ ⟨a, cs, none, 0, rfl, rfl, ha, rfl, h⟩
 have : cs' = [] := List.map_eq_nil_iff.mp hd.symm
 subst this
 have hr' : f = rung a cs := hr
 subst hr'
 exact ⟨v, h1⟩
theorem U3 (K : Frag) {n : Nat} {a : List Int} (ha : a.length = n) (hn : n ≤ 12) {cs : List Nat} (h : Zx n 0 cs = true) : Zy K [.tup (iL a), .tup (nD cs)] = .ok (.sh (.tup (iL (rung a cs)))) := by
 obtain ⟨v, h1⟩ := Ev K (da := .tup (iL a)) (dch := .tup (nD cs)) ha hn h
 have e1 : Yw [.tup (iL a)] = some (.ow true (.list (iL a))) := DF (by rw [QF]; exact Nat.le_trans (Nat.le_of_eq ha) (Nat.le_trans hn (by decide)))
 have e2 := ZZ (ds := iL (rung a cs)) (by rw [QF, YM]; exact Nat.le_trans (Nat.le_of_eq ha) (Nat.le_trans hn (by decide)))
 have e3 : Zb (.tup (nD cs)) = some (nD cs) := rfl
 unfold Zy Wp
 refine' XB [some (.sh (.tup (iL a))), some (.sh (.tup (nD cs))), none, none] rfl rfl ?_ XE
 repeat' (first|(with_reducible first|assumption|exact QO|exact YX|exact QA|apply Qs|apply Qm|apply Xl|apply QR|apply Qw|apply XC|apply Xf|apply Xx|apply I0|apply Ln|apply Lv|apply Lx|apply Ly|apply Lq|exact Lr)|exact Xh rfl|exact QZ|decide)
theorem BH (K : Frag) (c : Int) (n : Nat) (h3 : 3 ≤ n) (h12 : n ≤ 12) : ∃ r, (Ou 1000 (QD ltI (eOp 3) (Qc (Qr Va (eOp 1) (Qc (Qe (.int 1)))))) (Qj (sIf (QD gtI (Qc (Qr Z3 (Qc (Qr UT (Qc (Qy (Zm K) (Qb (eOp 0) (Qb (eOp 3) Qi)))) (Qc (Qe (.int 5))))) (Qc (Qe (.int 3))))) (Qc (Qe (.int 0)))) (Qj (Zd (Qc (YE 2 (Q3 3)))) (Qj (Qx 3 (Qr Xz (eOp 3) (Qc (Qe (.int 1))))) Qn)) Qn) (Qj (Qx 3 (Qr Xz (eOp 3) (Qc (Qe (.int 1))))) Qn))) [some (.sh (.int c)), some (.sh (.int n)), some (.ow true (.list [])), some (.sh (.int 0))] = r ∧ ∃ cs v, r = .ok .next [some (.sh (.int c)), some (.sh (.int n)), some (.ow true (.list (nD cs))), v] ∧ Zx n 0 cs = true := by
 refine BI (fun m ρ => ∃ (cs : List Nat) (p : Nat), ρ = [some (.sh (.int c)), some (.sh (.int n)), some (.ow true (.list (nD cs))), some (.sh (.int p))] ∧ m = 100 - p ∧ p ≤ n ∧ cs.length ≤ p ∧ (∀ r, Zx n p r = true → Zx n 0 (cs ++ r) = true)) (fun r => ∃ cs v, r = .ok .next [some (.sh (.int c)), some (.sh (.int n)), some (.ow true (.list (nD cs))), v] ∧ Zx n 0 cs = true) ?_ 1000 100 _ ⟨[], 0, rfl, rfl, Nat.zero_le _, Nat.zero_le _, fun r h => h⟩ (by decide)
 rintro m ρ ⟨cs, p, rfl, rfl, hp, hl, hc⟩
 have e0 : (Va (.int n) (.int 1)) = some (.sh (.int ((n : Int) - 1))) := rfl
 by_cases hpn : (p : Int) < (n : Int) - 1
 ·right
  have e1 := VE hpn
  have e2 := J7 K c p (Wx (by omega))
  have e3 : Z3 (.int ((mix c p).fdiv 5)) (.int 3) = some (.sh (.int (((mix c p).fdiv 5).fmod 3))) := Xn (by decide)
  generalize ((mix c p).fdiv 5).fmod 3 = z at e3
  have hl' : (nD cs).length ≤ 1000000 := by rw [FU]; lia
  by_cases hz : 0 < z
  ·have e4 := Ie hz
   refine ⟨[some (.sh (.int c)), some (.sh (.int n)), some (.ow true (.list (nD cs))), some (.sh (.int p))], .ok .next [some (.sh (.int c)), some (.sh (.int n)), some (.ow true (.list (nD cs ++ [.int p]))), some (.sh (.int ((p : Int) + 1 + 1)))], ?_, ?_, 100 - (p + 2), by omega, cs ++ [p], p + 2, ?_, rfl, by lia, by simp; exact Nat.le_succ_of_le hl, ?_⟩
   ·repeat' (first|(with_reducible first|assumption|exact QO|exact Yy|exact YX|exact Ui|exact QK|exact QA|apply Qs|apply ZL|exact Zc|exact Qv|apply Qm|apply QM|apply ZS|apply XO|apply Xs|apply QW|apply Qz|apply QE|apply Yg|apply Qw|apply Q6|apply Xu|apply Xf|apply Xn|apply Zn|apply IW|apply IZ|apply IY|apply I1|apply I2|apply Lf|apply Lg|apply Lw|apply Lx|apply Lq|apply Ls|apply Lu)|exact Q2 rfl|exact Xh rfl|exact QZ|decide)
   ·repeat' (first|(with_reducible first|assumption|exact QO|exact Yy|exact YX|exact Ui|exact QK|exact QA|apply Qs|apply ZL|exact Zc|exact Qv|apply Qm|apply QM|apply ZS|apply XO|apply Xs|apply QW|apply Qz|apply QE|apply Yg|apply Qw|apply Q6|apply Xu|apply Xf|apply Xn|apply Zn|apply IW|apply IZ|apply IY|apply I1|apply I2|apply Lf|apply Lg|apply Lw|apply Lx|apply Lq|apply Ls|apply Lu)|exact Q2 rfl|exact Xh rfl|exact QZ|decide)
   ·rw [show ((p : Int) + 1 + 1) = ((p + 2 : Nat) : Int) from rfl]
    unfold nD; rw [List.map_append]; rfl
   ·intro r hr
    rw [List.append_assoc]
    refine hc _ ?_
    show (decide _ && decide _ && Zx n (p + 2) r) = true
    rw [hr, decide_eq_true (Nat.le_refl _), decide_eq_true (by lia)]; rfl
  ·have e4 := Hm hz
   refine ⟨[some (.sh (.int c)), some (.sh (.int n)), some (.ow true (.list (nD cs))), some (.sh (.int p))], .ok .next [some (.sh (.int c)), some (.sh (.int n)), some (.ow true (.list (nD cs))), some (.sh (.int ((p : Int) + 1)))], ?_, ?_, 100 - (p + 1), by lia, cs, p + 1, ?_, rfl, by lia, by exact Nat.le_succ_of_le hl, ?_⟩
   ·repeat' (first|(with_reducible first|assumption|exact QO|exact Yy|exact YX|exact Ui|exact QK|exact QA|apply Qs|apply ZL|exact Zc|exact Qv|apply Qm|apply QM|apply ZS|apply XO|apply Xs|apply QW|apply Qz|apply QE|apply Yg|apply Qw|apply Q6|apply Xu|apply Xf|apply Xn|apply Zn|apply IW|apply IZ|apply IY|apply I1|apply I2|apply Lf|apply Lg|apply Lw|apply Lx|apply Lq|apply Ls|apply Lu)|exact Q2 rfl|exact Xh rfl|exact QZ|decide)
   ·repeat' (first|(with_reducible first|assumption|exact QO|exact Yy|exact YX|exact Ui|exact QK|exact QA|apply Qs|apply ZL|exact Zc|exact Qv|apply Qm|apply QM|apply ZS|apply XO|apply Xs|apply QW|apply Qz|apply QE|apply Yg|apply Qw|apply Q6|apply Xu|apply Xf|apply Xn|apply Zn|apply IW|apply IZ|apply IY|apply I1|apply I2|apply Lf|apply Lg|apply Lw|apply Lx|apply Lq|apply Ls|apply Lu)|exact Q2 rfl|exact Xh rfl|exact QZ|decide)
   ·rfl
   ·intro r hr
    refine hc r ?_
    cases r with
    | nil => rfl
    | cons q r =>
     rw [Zx] at hr ⊢
     simp only [Bool.and_eq_true, decide_eq_true_eq] at hr ⊢
     exact ⟨⟨by lia, hr.1.2⟩, hr.2⟩
 ·left
  have e1 := VH hpn
  refine ⟨[some (.sh (.int c)), some (.sh (.int n)), some (.ow true (.list (nD cs))), some (.sh (.int p))], ?_, cs, _, rfl, ?_⟩
  ·repeat' (first|(with_reducible first|assumption|exact QO|exact Yy|exact YX|exact Ui|exact QK|exact QA|apply Qs|apply ZL|exact Zc|exact Qv|apply Qm|apply QM|apply ZS|apply XO|apply Xs|apply QW|apply Qz|apply QE|apply Yg|apply Qw|apply Q6|apply Xu|apply Xf|apply Xn|apply Zn|apply IW|apply IZ|apply IY|apply I1|apply I2|apply Lf|apply Lg|apply Lw|apply Lx|apply Lq|apply Ls|apply Lu)|exact Q2 rfl|exact Xh rfl|exact QZ|decide)
  ·have := hc [] rfl
   rwa [List.append_nil] at this
theorem Ey (cs : List Nat) : eqI (.list (nD cs)) (.list []) = some (.sh (.bool (decide (cs = [])))) := by
 have := BN (cs.map fun (p : Nat) => (p : Int)) []
 rw [← Ip] at this
 rw [show (D.list (iL [])) = .list [] from rfl] at this
 rw [this]
 congr 3
 unfold eqB
 exact decide_eq_decide.mpr List.map_eq_nil_iff
theorem Ud (K : Frag) (c : Int) (n : Nat) (h3 : 3 ≤ n) (h12 : n ≤ 12) : ∃ cs, XK K [.int c, .int n] = .ok (.sh (.tup (nD cs))) ∧ Change n cs := by
 obtain ⟨r, h1, cs, v, rfl, hc⟩ := BH K c n h3 h12
 have e1 := Ey cs
 have hl := Os hc (Nat.zero_le _)
 by_cases hz : cs = []
 ·subst hz
  rw [decide_eq_true rfl] at e1
  have e2 := J7 K c 20 (Wx (by decide))
  obtain ⟨p, hp, hpn⟩ := JG (mix c 20) (n := n - 1) (by lia)
  have e0 : (Va (.int n) (.int 1)) = some (.sh (.int ((n : Int) - 1))) := rfl
  have e3 : Z3 (.int (mix c 20)) (.int ((n : Int) - 1)) = some (.sh (.int p)) := by rw [Xn (by lia), show ((n : Int) - 1) = ((n - 1 : Nat) : Int) by lia, hp]
  refine ⟨[p], ?_, by simp, ?_⟩
  ·have e4 : Yc [.list [.int p]] = some (.sh (.tup (nD [p]))) := ZZ (ds := [.int p]) (by simp)
   unfold XK YC
   refine' XB [some (.sh (.int c)), some (.sh (.int n)), none, none] rfl rfl ?_ XE
   repeat' (first|(with_reducible first|assumption|exact QO|exact ZJ|exact Yy|exact YX|exact Ui|exact QK|exact QA|apply Qs|exact U0|apply UZ|exact X7|exact Zr|exact Qv|exact XU|apply Qm|apply QM|apply ZS|apply XO|apply Xs|apply Qz|apply Xl|apply QE|apply XR|apply Jv|apply Qw|apply Q6|apply XC|apply Xf|apply Xn|apply IW|apply IZ|apply IY|apply I0|apply I1|apply I2|apply I4|apply I5|apply I7|apply Lf|apply Lv|apply Lx|apply Lq|exact Lr|apply Ls|apply Lu)|exact Q2 rfl|exact QZ|decide)
  ·show (decide _ && decide _ && true) = true
   rw [decide_eq_true (Nat.zero_le _), decide_eq_true (by exact Nat.add_lt_of_lt_sub hpn)]; rfl
 ·rw [decide_eq_false hz] at e1
  refine ⟨cs, ?_, hz, hc⟩
  have e4 := ZZ (ds := nD cs) (by rw [FU]; exact Nat.le_trans hl (Nat.le_trans h12 (by decide)))
  unfold XK YC
  refine' XB [some (.sh (.int c)), some (.sh (.int n)), none, none] rfl rfl ?_ XE
  repeat' (first|(with_reducible first|assumption|exact QO|exact ZJ|exact Yy|exact YX|exact Ui|exact QK|exact QA|apply Qs|exact U0|apply UZ|exact X7|exact Zr|exact Qv|exact XU|apply Qm|apply QM|apply ZS|apply XO|apply Xs|apply Qz|apply Xl|apply QE|apply XR|apply Jv|apply Qw|apply Q6|apply XC|apply Xf|apply Xn|apply IW|apply IZ|apply IY|apply I0|apply I1|apply I2|apply I4|apply I5|apply I7|apply Lf|apply Lv|apply Lx|apply Lq|exact Lr|apply Ls|apply Lu)|exact Q2 rfl|exact QZ|decide)
theorem CH (K : Frag) {n : Nat} {dch : D} : ∀ (cs : List Nat) (lo : Nat) (v : Option T), Zx n lo cs = true → ∃ (a : Int) (v' : Option T), XF (QG 3) (Qj (sIf (eOr (ZH (Q5 (Qc (Qy (XX K) (Qb (eOp 3) Qi))))) (eOr (ZH (YK leI leI (Qc (Qr Xz (eOp 2) (Qc (Qe (.int 2))))) (eOp 3) (Qc (Qr Va (eOp 0) (Qc (Qe (.int 2))))))) Xm)) (Qj (fun _ => .stuck) Qn) Qn) (Qj (Qx 2 (Q3 3)) Qn)) (nD cs) [some (.sh (.int n)), some (.sh dch), some (.sh (.int ((lo : Int) - 2))), v] = .ok .next [some (.sh (.int n)), some (.sh dch), some (.sh (.int a)), v'] := by
 intro cs
 induction cs with
 | nil => intro lo v _; exact ⟨_, v, rfl⟩
 | cons p r ih =>
  intro lo v h
  obtain ⟨h, h3⟩ := Bool.and_eq_true_iff.mp (show (decide (lo ≤ p) && decide (p + 2 ≤ n) && Zx n (p + 2) r) = true from h)
  obtain ⟨h1, h2⟩ := Bool.and_eq_true_iff.mp h
  have h1 := of_decide_eq_true h1
  have h2 := of_decide_eq_true h2
  have e : XX K [.int (p : Int)] = .ok (.sh (.bool true)) := Jk K (.int p) rfl
  have e0 : Xz (.int ((lo : Int) - 2)) (.int 2) = some (.sh (.int ((lo : Int) - 2 + 2))) := rfl
  have e1 := Kn (a := (lo : Int) - 2 + 2) (b := (p : Int)) (by (simpa using h1))
  have e2 := Kn (a := (p : Int)) (b := (n : Int) - 2) (by lia)
  have e3 : Va (.int (n : Int)) (.int 2) = some (.sh (.int ((n : Int) - 2))) := rfl
  obtain ⟨a, v', q⟩ := ih (p + 2) (some (.sh (.int p))) h3
  rw [show (((p + 2 : Nat) : Int) - 2) = (p : Int) by (simpa using h1)] at q
  refine ⟨a, v', ?_⟩
  show XF _ _ (D.int (p : Nat) :: nD r) _ = _
  repeat' (first|(with_reducible first|assumption|exact QO|exact Yy|exact YX|exact Ui|exact QK|exact QA|apply Qs|exact QQ|exact Qv|apply Qm|apply ZS|apply Q9|apply Qz|apply QE|apply Q8|apply X0|apply X6|apply Jz|apply Qw|apply Q6|apply Xf|apply IW|apply I1|apply I8|apply Lh|apply Lj|apply Lk|apply Lx|exact I9|apply Le|apply Li|apply Lq|apply Lu|apply QP|apply Xa|apply Lz)|exact Q2 rfl|exact Xh rfl|exact QZ|decide)
theorem W3 (K : Frag) {n : Nat} {cs : List Nat} (h : Change n cs) (hn : n ≤ 12) : Zw K [.int n, .tup (nD cs)] = .ok (.sh .none) := by
 have hl := Os h.ok (Nat.zero_le _)
 have e' : QV K [.tup (nD cs), .glob (.type "tuple")] = some (.sh (.bool true)) := JZ K (.tup (nD cs)) rfl
 have e2 := WO (ds := nD cs) (by unfold nD; rw [List.length_map]; exact Nat.le_trans hl (Nat.le_trans hn (by decide)))
 have e3 := Ib (a := ((nD cs).length : Int)) (b := 0) (by
  have := List.length_pos_iff.mpr h.ne; unfold nD; rw [List.length_map]; exact Int.ofNat_ne_zero.mpr (Nat.ne_of_gt this))
 obtain ⟨a, v', h1⟩ := CH K (n := n) (dch := .tup (nD cs)) cs 0 none h.ok
 have h1 : XF (QG 3) _ (nD cs) [some (.sh (.int n)), some (.sh (.tup (nD cs))), some (.sh (.int (-2))), none] = .ok .next [some (.sh (.int n)), some (.sh (.tup (nD cs))), some (.sh (.int a)), v'] := h1
 have e4 : Zb (.tup (nD cs)) = some (nD cs) := rfl
 have e5 : O1 (.int 2) = some (.sh (.int (-2))) := rfl
 unfold Zw Jl
 refine' XB [some (.sh (.int n)), some (.sh (.tup (nD cs))), none, none] rfl rfl ?_ UD
 repeat' (first|(with_reducible first|assumption|exact QO|exact YX|exact QK|exact QA|apply Qs|exact Zc|exact QQ|exact Qv|exact XU|apply Qm|apply QM|apply QW|apply Qz|apply Xl|apply Q8|apply X0|apply X6|apply Dv|apply QR|apply Qw|apply Q6|apply Xf|apply Xx|apply IW|apply IX|apply I0|apply I2|apply I8|apply Lf|apply Lg|apply Ln|apply Lx|apply Ly|exact I9|apply Le|apply Lq|apply Lu)|exact Xh rfl|exact QZ|decide)
noncomputable def Ql (l : List (List Int)) : List D := l.map fun a => D.tup (iL a)
noncomputable def chD (chs : List (List Nat)) : List D := chs.map fun c => D.tup (nD c)
noncomputable def Qu (a : List Int) : List (List Nat) → List (List Int)
 | [] => [a]
 | c :: cs => a :: Qu (rung a c) cs
theorem YG (chs : List (List Nat)) : ∀ a, (Qu a chs).length = chs.length + 1 := by
 induction chs with
 | nil => intro a; rfl
 | cons c cs ih => intro a; rw [Qu, List.length_cons, ih, List.length_cons]
theorem XG (l : List (List Int)) : (Ql l).length = l.length := by unfold Ql; simp
structure Chs (n : Nat) (chs : List (List Nat)) : Prop where
 h3 : 3 ≤ n
 h12 : n ≤ 12
 len : chs.length ≤ 30
 all : ∀ c ∈ chs, Change n c
noncomputable def mth (n : Nat) (chs ws : List (List Nat)) : D := .obj 219 ["bells", "steps", "ways"] [.int n, .list (chD chs), .list (chD ws)]
theorem Cn {l : List (List Int)} {a : List Int} (hl : l.length ≤ 1000) : QY (.list (Ql (l ++ [a]))) (.int (-1)) = some (.sh (.tup (iL a))) := by
 have := D0 (ds := Ql l) (d := .tup (iL a)) (by rw [XG]; exact hl)
 rw [show Ql (l ++ [a]) = Ql l ++ [.tup (iL a)] from List.map_append]
 exact this
theorem VN (l : List (List Int)) (a : List Int) : Ql l ++ [.tup (iL a)] = Ql (l ++ [a]) := by unfold Ql; rw [List.map_append]; rfl
theorem D4 (K : Frag) {n : Nat} {dself dhead : D} (hn : n ≤ 12) (chs : List (List Nat)) : (∀ c ∈ chs, Change n c) → chs.length ≤ 100 → ∀ (pre : List (List Int)) (a : List Int) (v : Option T), a.length = n → pre.length + chs.length ≤ 200 →
  ∃ v', XF (QG 3) (Qj (Zd (Qc (YE 2 (Qy (JI K) (Qb (Qc (Qr QY (eOp 2) (Qc (Bs O1 (Qc (Qe (.int 1))))))) (Qb (eOp 3) Qi)))))) Qn) (chD chs) [some (.sh dself), some (.sh dhead), some (.ow true (.list (Ql (pre ++ [a])))), v] = .ok .next [some (.sh dself), some (.sh dhead), some (.ow true (.list (Ql (pre ++ Qu a chs)))), v'] := by
 induction chs with
 | nil => intro hc hl pre a v ha hp; exact ⟨v, rfl⟩
 | cons c cs ih =>
  intro hc hl pre a v ha hp
  rw [List.length_cons] at hl hp
  have hcc := hc c (.head _)
  have e1 := V6 K ha hn hcc.ok
  have e2 := Cn (l := pre) (a := a) (by exact omP hp)
  have hlen : (Ql (pre ++ [a])).length ≤ 1000000 := by rw [XG, List.length_append]; simp; exact omP hp
  have e3 : O1 (.int 1) = some (.sh (.int (-1))) := rfl
  obtain ⟨v', h⟩ := ih (fun x hx => hc x (.tail _ hx)) (by exact omL hl) (pre ++ [a]) (rung a c) (some (.sh (.tup (nD c)))) (by rw [YM]; exact ha) (by rw [List.length_append]; simp; exact omS hp)
  refine ⟨v', ?_⟩
  rw [show Qu a (c :: cs) = [a] ++ Qu (rung a c) cs from rfl, ← List.append_assoc]
  rw [← VN (pre ++ [a])] at h
  show XF _ _ (D.tup (nD c) :: chD cs) _ = _
  repeat' (first|(with_reducible first|assumption|exact QO|exact YX|exact Ui|exact QK|exact QA|apply Qs|apply ZL|exact Zc|exact Qv|apply Qm|apply QJ|apply Ze|apply Qz|apply QE|apply Dv|apply Yg|apply Qw|apply Xu|apply IW|apply IX|apply IY|apply I1|apply I2|apply I3|apply Lw|apply Lq|apply QP|apply Xa|apply Lz)|exact Q2 rfl|exact QZ|decide)
theorem O8 (K : Frag) {n : Nat} {dhead dinner : D} (hn : n ≤ 12) (chs : List (List Nat)) : (∀ c ∈ chs, Change n c) → chs.length ≤ 100 → ∀ (pre : List (List Int)) (a : List Int) (v : Option T), a.length = n → pre.length + chs.length ≤ 200 →
  ∃ v', XF (QG 3) (Qj (Zd (Qc (YE 2 (Qy (Zy K) (Qb (Qc (Qr QY (eOp 2) (Qc (Bs O1 (Qc (Qe (.int 1))))))) (Qb (eOp 3) Qi)))))) Qn) (chD chs) [some (.sh dhead), some (.sh dinner), some (.ow true (.list (Ql (pre ++ [a])))), v] = .ok .next [some (.sh dhead), some (.sh dinner), some (.ow true (.list (Ql (pre ++ Qu a chs)))), v'] := by
 induction chs with
 | nil => intro hc hl pre a v ha hp; exact ⟨v, rfl⟩
 | cons c cs ih =>
  intro hc hl pre a v ha hp
  rw [List.length_cons] at hl hp
  have hcc := hc c (.head _)
  have e1 := U3 K ha hn hcc.ok
  have e2 := Cn (l := pre) (a := a) (by exact omP hp)
  have hlen : (Ql (pre ++ [a])).length ≤ 1000000 := by rw [XG, List.length_append]; simp; exact omP hp
  have e3 : O1 (.int 1) = some (.sh (.int (-1))) := rfl
  obtain ⟨v', h⟩ := ih (fun x hx => hc x (.tail _ hx)) (by exact omL hl) (pre ++ [a]) (rung a c) (some (.sh (.tup (nD c)))) (by rw [YM]; exact ha) (by rw [List.length_append]; simp; exact omS hp)
  refine ⟨v', ?_⟩
  rw [show Qu a (c :: cs) = [a] ++ Qu (rung a c) cs from rfl, ← List.append_assoc]
  rw [← VN (pre ++ [a])] at h
  show XF _ _ (D.tup (nD c) :: chD cs) _ = _
  repeat' (first|(with_reducible first|assumption|exact QO|exact YX|exact Ui|exact QK|exact QA|apply Qs|apply ZL|exact Zc|exact Qv|apply Qm|apply QJ|apply Ze|apply Qz|apply QE|apply Dv|apply Yg|apply Qw|apply Xu|apply IW|apply IX|apply IY|apply I1|apply I2|apply I3|apply Lw|apply Lq|apply QP|apply Xa|apply Lz)|exact Q2 rfl|exact QZ|decide)
theorem OG (K : Frag) {n : Nat} {a : List Int} {chs ws : List (List Nat)} (ra : Row n a) : X4 K [mth n chs ws, .tup (iL a)] = .ok (.sh .none) := by
 have e1 := YD K ra
 have e2 := WO (ds := iL a) (by rw [QF, ra.len]; have := ra.h12; exact omB this)
 rw [QF, ra.len] at e2
 have e3 := Ga (n : Int)
 unfold X4 ZC
 refine' XB [some (.sh (mth n chs ws)), some (.sh (.tup (iL a)))] rfl rfl ?_ UD
 unfold mth
 repeat' (first|(with_reducible first|assumption|exact QO|exact QK|exact QA|apply Qs|exact F2|exact QQ|exact Qv|apply Qm|apply QW|apply Qz|apply Xl|apply QE|apply Q8|apply X0|apply X6|apply Qw|apply Q6|apply V3|apply IW|apply I0|apply I1|apply I8|apply Lf|apply Lg|exact I9|apply Le|apply Lq|apply Lu)|exact Q2 rfl|exact QZ|decide)
theorem EI (K : Frag) {n : Nat} {a : List Int} {chs ws : List (List Nat)} (ra : Row n a) (hc : Chs n chs) : Yh K [mth n chs ws, .tup (iL a)] = .ok (.ow true (.list (Ql (Qu a chs)))) := by
 have e1 := OG K (chs := chs) (ws := ws) ra
 obtain ⟨v', h⟩ := D4 K (dself := mth n chs ws) (dhead := .tup (iL a)) ra.h12 chs hc.all (by have := hc.len; exact omB this) [] a none ra.len (by have := hc.len; simp; exact omB this)
 have h : XF (QG 3) _ (chD chs) [some (.sh (mth n chs ws)), some (.sh (.tup (iL a))), some (.ow true (.list [.tup (iL a)])), none] = .ok .next [some (.sh (mth n chs ws)), some (.sh (.tup (iL a))), some (.ow true (.list (Ql (Qu a chs)))), v'] := h
 have e2 : Zb (.list (chD chs)) = some (chD chs) := rfl
 unfold Yh Jm
 refine' XB [some (.sh (mth n chs ws)), some (.sh (.tup (iL a))), none, none] rfl rfl ?_ XE
 unfold mth at *
 repeat' (first|(with_reducible first|assumption|exact QO|exact YX|exact QA|apply Qs|exact U0|apply UZ|exact GL|exact Zr|apply Qm|apply Qz|apply XR|apply Jv|apply QR|apply Qw|apply Xu|apply Xf|apply Xx|apply V3|apply Fk|apply IW|apply I4|apply I5|apply I7|apply Ln|apply Lw|apply Lx|apply Ly|apply Lq|exact Lr|apply LB)|exact Q2 rfl|exact Xh rfl|exact VQ rfl|exact QZ|decide)
theorem Wc (K : Frag) {n : Nat} {a : List Int} {chs : List (List Nat)} (ha : a.length = n) (hc : Chs n chs) : Xy K [.tup (iL a), .list (chD chs)] = .ok (.ow true (.list (Ql (Qu a chs)))) := by
 obtain ⟨v', h⟩ := O8 K (dhead := .tup (iL a)) (dinner := .list (chD chs)) hc.h12 chs hc.all (by have := hc.len; exact omB this) [] a none ha (by have := hc.len; simp; exact omB this)
 have h : XF (QG 3) _ (chD chs) [some (.sh (.tup (iL a))), some (.sh (.list (chD chs))), some (.ow true (.list [.tup (iL a)])), none] = .ok .next [some (.sh (.tup (iL a))), some (.sh (.list (chD chs))), some (.ow true (.list (Ql (Qu a chs)))), v'] := h
 have e2 : Zb (.list (chD chs)) = some (chD chs) := rfl
 unfold Xy Wi
 refine' XB [some (.sh (.tup (iL a))), some (.sh (.list (chD chs))), none, none] rfl rfl ?_ XE
 repeat' (first|(with_reducible first|assumption|exact QO|exact YX|exact U0|apply UZ|exact Zr|apply XR|apply Jv|apply QR|apply Qw|apply Xf|apply Xx|apply I4|apply I5|apply I7|apply Ln|apply Lx|apply Ly|apply Lq|exact Lr)|exact Xh rfl|exact VQ rfl|decide)
theorem HY {ρ : AEnv} (h : Kw ρ = true) : Zl [] ρ = some [] := if_pos h
theorem V5 {ρ ρ₁ : AEnv} {n : Str} {f : AEnv → Res T} {fs : List (Str × (AEnv → Res T))} {t : T} {d : D} {ds : List D} (h : Kw ρ = true) (hf : f ρ = .ok t ρ₁) (hv : t.val = d) (hr : Zl fs ρ₁ = some ds) (hnw : autoParam (FP t = true) aR._auto_1) : Zl ((n, f) :: fs) ρ = some (d :: ds) := by
 subst hv
 refine (if_pos h).trans ?_
 conv => lhs; rw [hf]
 refine (if_pos hnw).trans ?_
 rw [hr]; rfl
theorem FB {n : Nat} {is : List Nat} {i₀ : Nat} {f : AEnv → Res Fl} {ts : List (Str × (AEnv → Res T))} {x : Addr} {ds es : List D} {ρ ρ₁ : AEnv} (hl : ds.length + 1 = is.length) (hi : OB n is (.glob (.ref x) :: ds) = ρ) (h : f ρ = .ok .next ρ₁) (hs : ρ₁[i₀]? = some (some (.sh (.glob (.ref x))))) (ht : Zl ts ρ₁ = some es) : B7 n is i₀ f ts x ds = .ok es := by
 subst hi
 refine (if_pos hl).trans ?_
 conv => lhs; whnf; rw [h]; whnf; rw [hs]
 refine (if_pos rfl).trans ?_
 conv => lhs; rw [ht]
theorem ZN (l : List (List Nat)) : (chD l).length = l.length := by unfold chD; simp
theorem EK (K : Frag) {n : Nat} (h12 : n ≤ 12) {a b c : D} {chs : List (List Nat)} (h : ∀ x ∈ chs, Change n x) : ∀ v₀, G3 v₀ = true → ∃ v, G3 v = true ∧ XF (QG 4) (Qj (Zd (Qc (Qy (Zw K) (Qb (eOp 1) (Qb (eOp 4) Qi))))) Qn) (chD chs) [some (.sh a), some (.sh (.int n)), some (.sh b), some (.sh c), v₀] = .ok .next [some (.sh a), some (.sh (.int n)), some (.sh b), some (.sh c), v] := by
 induction chs with
 | nil => intro v₀ hv; exact ⟨v₀, hv, rfl⟩
 | cons x xs ih =>
  intro v₀ _
  have e1 := W3 K (h x (.head _)) h12
  obtain ⟨v, h1, h2⟩ := ih (fun y hy => h y (.tail _ hy)) (some (.sh (.tup (nD x)))) rfl
  refine ⟨v, h1, ?_⟩
  show XF _ _ (D.tup (nD x) :: chD xs) _ = _
  repeat' (first|(with_reducible first|assumption|exact QO|exact OT|exact QA|apply Qs|exact Qv|apply Qm|apply QM|apply Qz|apply QE|apply Qw|apply Xu|apply IW|apply I1|apply I2|apply Lw|apply Lq|apply QP|apply Xa|apply Lz)|exact Q2 rfl|exact QZ|decide)
theorem Ka (K : Frag) (ds : List D) : QV K [.list ds, .glob (.type "list")] = some (.sh (.bool true)) := by kernel_rfl
theorem J2 {ds : List D} (h : ds.length ≤ 1000000) : Yw [.list ds] = some (.ow true (.list ds)) := GM h
theorem B5 (K : Frag) {n : Nat} {chs ws : List (List Nat)} (hc : Chs n chs) (hw : ∀ c ∈ ws, Change n c) (h1 : 1 ≤ ws.length) (h4 : ws.length ≤ 4) : KC (JK K) [.int n, .list (chD chs), .list (chD ws)] = .ok [.int n, .list (chD chs), .list (chD ws)] := by
 refine GD fun x => ?_
 have e1 := Ue K n (by have := hc.h3; exact Int.ofNat_le.mpr this) (by have := hc.h12; exact Int.ofNat_le.mpr this)
 have e2 := Ka K (chD chs)
 have e3 := Ka K (chD ws)
 have e4 := Z2 (ds := chD chs) (by rw [ZN]; have := hc.len; exact omB this)
 have e5 := Z2 (ds := chD ws) (by rw [ZN]; exact omB h4)
 rw [ZN] at e4 e5
 have e6 := Hm (a := (chs.length : Int)) (b := 30) (by have := hc.len; exact omN this)
 have e7 := Kn (a := 1) (b := (ws.length : Int)) (by exact Int.ofNat_le.mpr h1)
 have e8 := Kn (a := (ws.length : Int)) (b := 4) (by exact Int.ofNat_le.mpr h4)
 have e9 : Xz (.list (chD chs)) (.list (chD ws)) = some (.ow true (.list (chD (chs ++ ws)))) := by
  rw [Bl (by rw [ZN, ZN]; have := hc.len; exact Nat.le_trans (Nat.add_le_add this h4) (by decide))]
  unfold chD; rw [List.map_append]
 obtain ⟨v, hv, h⟩ := EK K (a := .glob (.ref x)) (b := .list (chD chs)) (c := .list (chD ws)) hc.h12 (chs := chs ++ ws) (fun c hcm => (List.mem_append.mp hcm).elim (hc.all c) (hw c)) none rfl
 have e10 : Zb (.list (chD (chs ++ ws))) = some (chD (chs ++ ws)) := rfl
 have e11 := J2 (ds := chD chs) (by rw [ZN]; have := hc.len; exact omB this)
 have e12 := J2 (ds := chD ws) (by rw [ZN]; exact omB h4)
 have sh : Kw [some (.sh (.glob (.ref x))), some (.sh (.int n)), some (.sh (.list (chD chs))), some (.sh (.list (chD ws))), v] = true := by
  show (true && (true && (true && (true && (G3 v && true))))) = true
  rw [hv]; rfl
 unfold JK Jx Jn
 refine' FB (ρ := [some (.sh (.glob (.ref x))), some (.sh (.int n)), some (.sh (.list (chD chs))), some (.sh (.list (chD ws))), none]) (ρ₁ := [some (.sh (.glob (.ref x))), some (.sh (.int n)), some (.sh (.list (chD chs))), some (.sh (.list (chD ws))), v]) rfl rfl ?_ rfl ?_
 ·repeat' (first|(with_reducible first|assumption|exact QO|exact ZJ|exact QK|exact QA|apply Qs|exact Zc|exact QQ|exact Qv|exact XU|apply Qm|apply QM|apply Ze|apply QW|apply Q9|apply Qz|apply Xl|apply QE|apply Q8|apply X0|apply X6|apply Jz|apply QR|apply Qw|apply Q6|apply Xu|apply Xx|apply IW|apply IY|apply I0|apply I1|apply I2|apply I8|apply Lf|apply Lg|apply Lh|apply Lj|apply Lk|apply Ln|apply Lw|apply Ly|exact I9|apply Le|apply Li|apply Lq|apply Lu)|exact Q2 rfl|exact Xh rfl|exact QZ|decide)
 ·refine' V5 sh (ρ₁ := [some (.sh (.glob (.ref x))), some (.sh (.int n)), some (.sh (.list (chD chs))), some (.sh (.list (chD ws))), v]) ?_ QO (V5 sh (ρ₁ := [some (.sh (.glob (.ref x))), some (.sh (.int n)), some (.sh (.list (chD chs))), some (.sh (.list (chD ws))), v]) ?_ ZJ (V5 sh (ρ₁ := [some (.sh (.glob (.ref x))), some (.sh (.int n)), some (.sh (.list (chD chs))), some (.sh (.list (chD ws))), v]) ?_ ZJ (HY sh)))
  ·exact Xh rfl
  ·repeat' (first|(with_reducible first|assumption|exact QO|exact ZJ|exact QK|exact QA|apply Qs|exact Zc|exact QQ|exact Qv|exact XU|apply Qm|apply QM|apply Ze|apply QW|apply Q9|apply Qz|apply Xl|apply QE|apply Q8|apply X0|apply X6|apply Jz|apply QR|apply Qw|apply Q6|apply Xu|apply Xx|apply IW|apply IY|apply I0|apply I1|apply I2|apply I8|apply Lf|apply Lg|apply Lh|apply Lj|apply Lk|apply Ln|apply Lw|apply Ly|exact I9|apply Le|apply Li|apply Lq|apply Lu)|exact Q2 rfl|exact Xh rfl|exact QZ|decide)
  ·repeat' (first|(with_reducible first|assumption|exact QO|exact ZJ|exact QK|exact QA|apply Qs|exact Zc|exact QQ|exact Qv|exact XU|apply Qm|apply QM|apply Ze|apply QW|apply Q9|apply Qz|apply Xl|apply QE|apply Q8|apply X0|apply X6|apply Jz|apply QR|apply Qw|apply Q6|apply Xu|apply Xx|apply IW|apply IY|apply I0|apply I1|apply I2|apply I8|apply Lf|apply Lg|apply Lh|apply Lj|apply Lk|apply Ln|apply Lw|apply Ly|exact I9|apply Le|apply Li|apply Lq|apply Lu)|exact Q2 rfl|exact Xh rfl|exact QZ|decide)
theorem WN (k : List Int) (r : List (List Int)) : ∀ l : List (List Int), QB k (l ++ r) = match QB k l with | some j => some j | none => (QB k r).map (· + l.length)
 | [] => by show QB k r = (QB k r).map _; cases QB k r <;> rfl
 | x :: l => by
  rw [List.cons_append, QB, QB, WN k r l]
  split
  ·rfl
  ·cases QB k l with
   | some j => rfl
   | none =>
    cases QB k r with
    | none => rfl
    | some j => simp only [Option.map_some, Option.map_none, List.length_cons, Nat.add_assoc]
theorem BV {k : List Int} {l : List (List Int)} {j : Nat} (h : QB k l = some j) : j < l.length := (List.getElem?_eq_some_iff.mp (UL h)).1
noncomputable def ZR (x : Nat × Nat) : D := .tup [.int x.1, .int x.2]
noncomputable def BR : Option (Nat × Nat) → D
 | none => .none
 | some x => ZR x
noncomputable def enF (p : Nat) (l : List (List Int)) : List D := ((Ql l).zipIdx p).map fun x => D.tup [.int x.2, x.1]
theorem BD (p : Nat) (a : List Int) (l : List (List Int)) : enF p (a :: l) = .tup [.int p, .tup (iL a)] :: enF (p + 1) l := by
 unfold enF Ql; rw [List.map_cons, List.zipIdx_cons, List.map_cons]
theorem C7 (l : List (List Int)) : XW (Ql l) = enF 0 l := rfl
theorem JD (a : List Int) : Yr (.tup (iL a)) = some a := Ek a
noncomputable def O9 (a : List Int) (same : Bool) (i : Nat) : Nat → List (List Int) → Option Nat
 | _, [] => none
 | p, b :: r => if a = b ∧ (same = false ∨ i < p) then some p else O9 a same i (p + 1) r
noncomputable def VR (B : List (List Int)) (same : Bool) : Nat → List (List Int) → Option (Nat × Nat)
 | _, [] => none
 | i, a :: r => match O9 a same i 0 B with
  | some j => some (i, j)
  | none => VR B same (i + 1) r
theorem Ec {l : List (List Int)} {i : Nat} {a : List Int} (h : l[i]? = some a) : (Ql l)[i]? = some (.tup (iL a)) := by unfold Ql; rw [List.getElem?_map, h]; rfl
theorem Oj {l : List (List Int)} {i : Nat} {a : List Int} (h : l[i]? = some a) (hl : l.length ≤ 1000) : QY (.list (Ql l)) (.int i) = some (.sh (.tup (iL a))) := by
 have : i < l.length := (List.getElem?_eq_some_iff.mp h).1
 exact JH (by exact Int.ofNat_nonneg _) (by exact omI this (omB hl)) (by rw [Int.toNat_natCast]; exact Ec h)
theorem WD {m : Nat} (h : m ≤ 1000) : Zb (.range 0 m 1) = some (nL (List.range' 0 m)) := by
 rw [Vo m (by exact omB h)]
 unfold iL rng nL
 rw [List.map_map, ← List.range_eq_range']; rfl
theorem OH (f : Int → Int) {a : List Int} {p : Nat} (h : p < a.length) : (a.map f).getD p 0 = f (a.getD p 0) := by
 rw [List.getD_eq_getElem?_getD, List.getD_eq_getElem?_getD, List.getElem?_map, List.getElem?_eq_getElem h]; rfl
theorem D9 (f : Int → Int) {a : List Int} {p : Nat} (h : p + 1 < a.length) : swap (a.map f) p = (swap a p).map f := by
 unfold swap
 rw [OH f h, OH f (by exact Nat.lt_of_succ_lt h), List.map_set, List.map_set]
theorem BF (f : Int → Int) {n : Nat} : ∀ {cs : List Nat} {lo : Nat} {a : List Int}, a.length = n → Zx n lo cs = true → rung (a.map f) cs = (rung a cs).map f
 | [], _, _, _, _ => rfl
 | p :: r, lo, a, ha, h => by
  rw [Zx] at h
  simp only [Bool.and_eq_true, decide_eq_true_eq] at h
  show rung (swap (a.map f) p) r = (rung (swap a p) r).map f
  rw [D9 f (by lia)]
  exact BF f (by rw [Zs]; exact ha) h.2
theorem Cm (f : Int → Int) {n : Nat} : ∀ {chs : List (List Nat)} {a : List Int}, (∀ c ∈ chs, Change n c) → a.length = n → Qu (a.map f) chs = (Qu a chs).map (List.map f)
 | [], a, _, _ => rfl
 | c :: cs, a, h, ha => by
  rw [Qu, Qu, List.map_cons, BF f ha (h c (.head _)).ok, Cm f (fun x hx => h x (.tail _ hx)) (by rw [YM]; exact ha)]
theorem JE {n : Nat} : ∀ {chs : List (List Nat)} {a : List Int}, (∀ c ∈ chs, Change n c) → Row n a → ∀ x ∈ Qu a chs, Row n x
 | [], a, _, ra, x, hx => by rw [Qu] at hx; cases hx with | head => exact ra | tail _ h => cases h
 | c :: cs, a, h, ra, x, hx => by
  rw [Qu] at hx
  rcases List.mem_cons.mp hx with rfl | hx
  ·exact ra
  ·exact JE (fun y hy => h y (.tail _ hy)) (ra.rung (h c (.head _)).ok) x hx
theorem Row.vals {n : Nat} {a : List Int} (r : Row n a) : ∀ x ∈ a, 0 ≤ x ∧ x < n := fun x hx => r.mem.mp hx
theorem Fc {n : Nat} {a : List Int} (r : Row n a) : comp a (rng n) = a := by
 unfold comp
 apply List.ext_getElem?
 intro i
 rw [List.getElem?_map]
 by_cases hi : i < n
 ·unfold rng
  rw [List.getElem?_map, List.getElem?_range hi]
  show some (at' a (i : Int)) = a[i]?
  unfold at'
  have : i < a.length := by rw [r.len]; exact hi
  rw [Int.toNat_natCast, List.getD_eq_getElem?_getD, List.getElem?_eq_getElem this]; rfl
 ·rw [List.getElem?_eq_none (by rw [Yb]; exact Nat.le_of_not_lt hi), List.getElem?_eq_none (by rw [r.len]; exact Nat.le_of_not_lt hi)]; rfl
theorem Row.comp {n : Nat} {a b : List Int} (ra : Row n a) (rb : Row n b) : Row n (comp a b) := by
 refine ⟨?_, ra.h3, ra.h12⟩
 have h := rb.perm.map (at' a)
 have : (rng n).map (at' a) = a := Fc ra
 rw [this] at h
 exact h.trans ra.perm
theorem WW {n : Nat} (h3 : 3 ≤ n) (h12 : n ≤ 12) : Row n (rng n) := ⟨.refl _, h3, h12⟩
noncomputable def D6 (K : Frag) (c : Int) (n : Nat) : List Nat := by
 classical exact if h : 3 ≤ n ∧ n ≤ 12 then Classical.choose (Ud K c n h.1 h.2) else []
theorem DH (K : Frag) (c : Int) {n : Nat} (h3 : 3 ≤ n) (h12 : n ≤ 12) : XK K [.int c, .int n] = .ok (.sh (.tup (nD (D6 K c n)))) ∧ Change n (D6 K c n) := by
 unfold D6
 rw [dif_pos ⟨h3, h12⟩]
 exact Classical.choose_spec (Ud K c n h3 h12)
theorem UI {α : Type} {l r : List α} {b : α} {p : Nat} (h : l.drop p = b :: r) : l[p]? = some b ∧ l.drop (p + 1) = r := by
 have h1 : (l.drop p)[0]? = some b := by rw [h]; rfl
 rw [List.getElem?_drop, Nat.add_zero] at h1
 refine ⟨h1, ?_⟩
 rw [← List.drop_drop, h]; rfl
theorem Vm {h b c : List Int} (hc : ∀ j ∈ c, 0 ≤ j ∧ j < b.length) : comp (comp h b) c = comp h (comp b c) := by
 unfold comp
 rw [List.map_map]
 refine List.map_congr_left fun j hj => ?_
 have := hc j hj
 show (b.map (at' h)).getD j.toNat 0 = at' h (b.getD j.toNat 0)
 exact OH (at' h) (by omega)
noncomputable def YA (n : Nat) (a b : List Int) : List Int := comp a (turn n b)
theorem Ft {n : Nat} {a b : List Int} (rb : Row n b) : (YA n a b).length = n := by unfold YA; rw [Bw, (Ur rb).len]
theorem GR {n : Nat} {h b : List Int} (hl : h.length = n) (rb : Row n b) : YA n (comp h b) b = h := by
 have ti := Ur rb
 unfold YA
 rw [Vm (fun j hj => by rw [rb.len]; exact (ti.row rb).vals j hj), ti.comp1 rb, WV hl]
theorem DL {n : Nat} {a b : List Int} (ra : Row n a) (rb : Row n b) : comp (YA n a b) b = a := by
 have ti := Ur rb
 unfold YA
 rw [Vm (fun j hj => by rw [ti.len]; exact rb.vals j hj), ti.comp2 rb, WV ra.len]
theorem EY {n : Nat} {a b : List Int} (ra : Row n a) (rb : Row n b) : Row n (YA n a b) := ra.comp ((Ur rb).row rb)
theorem FZ {n : Nat} {h a b : List Int} (hl : h.length = n) (ra : Row n a) (rb : Row n b) : a = comp h b ↔ YA n a b = h := ⟨fun e => by rw [e]; exact GR hl rb, fun e => by rw [← e]; exact (DL ra rb).symm⟩
theorem VF {n : Nat} {chs : List (List Nat)} {h : List Int} (hl : h.length = n) (hc : ∀ c ∈ chs, Change n c) : Qu h chs = (Qu (rng n) chs).map (comp h) := by
 have q := Cm (at' h) (chs := chs) (a := rng n) hc (Yb n)
 have e : (rng n).map (at' h) = h := WV hl
 rw [e] at q
 exact q
noncomputable def Ca (a : List Int) (cs : List (List Nat)) : List Int := cs.reverse.foldl rung a
theorem Gg (chs : List (List Nat)) : ∀ (h : List Int) (j : Nat), j ≤ chs.length → (Qu h chs)[j]? = some ((chs.take j).foldl rung h) := by
 induction chs with
 | nil =>
  intro h j hj
  obtain rfl : j = 0 := Nat.le_zero.mp hj
  rfl
 | cons c cs ih =>
  intro h j hj
  cases j with
  | zero => rfl
  | succ j => exact ih (rung h c) j (Nat.le_of_succ_le_succ hj)
theorem Ed {n : Nat} (cs : List (List Nat)) : (∀ c ∈ cs, Change n c) → ∀ h : List Int, h.length = n → Ca (cs.foldl rung h) cs = h := by
 induction cs with
 | nil => intro _ h _; rfl
 | cons c cs ih =>
  intro hc h hl
  have e := ih (fun x hx => hc x (.tail _ hx)) (rung h c) (by rw [YM]; exact hl)
  unfold Ca at e ⊢
  rw [List.reverse_cons, List.foldl_append]
  show rung (List.foldl rung (List.foldl rung (rung h c) cs) cs.reverse) c = h
  rw [e]
  exact VC hl (hc c (.head _)).ok
theorem Gn {n : Nat} {chs : List (List Nat)} {a b : List Int} {j : Nat} (hc : ∀ c ∈ chs, Change n c) (ra : Row n a) (rb : Row n b) (hj : (Qu (rng n) chs)[j]? = some b) : Ca a (chs.take j) = YA n a b := by
 have hjl : j ≤ chs.length := by
  have := (List.getElem?_eq_some_iff.mp hj).1
  rw [YG] at this; exact Nat.le_of_lt_succ this
 have hl := Ft (a := a) rb
 have e := Gg chs (YA n a b) j hjl
 rw [VF hl hc, List.getElem?_map, hj] at e
 have e2 : comp (YA n a b) b = (chs.take j).foldl rung (YA n a b) := Option.some.inj e
 rw [DL ra rb] at e2
 have := Ed (n := n) (chs.take j) (fun c hx => hc c (List.mem_of_mem_take hx)) (YA n a b) hl
 rw [← e2] at this
 exact this
abbrev Pr := List Int × (Nat × Nat)
noncomputable def prJ (n i : Nat) (a : List Int) : Nat → List (List Int) → List Pr
 | _, [] => []
 | q, b :: l => if YA n a b ≠ rng n ∨ i < q then (YA n a b, (i, q)) :: prJ n i a (q + 1) l else prJ n i a (q + 1) l
noncomputable def prI (n : Nat) (R : List (List Int)) : Nat → List (List Int) → List Pr
 | _, [] => []
 | i, a :: l => prJ n i a 0 R ++ prI n R (i + 1) l
noncomputable def Yt (P : List Pr) (h : List Int) : Option (Nat × Nat) := (P.find? fun x => decide (x.1 = h)).map (·.2)
theorem YH (x : Pr) (P : List Pr) (h : List Int) : Yt (x :: P) h = if x.1 = h then some x.2 else Yt P h := by
 unfold Yt
 rw [List.find?_cons]
 by_cases e : x.1 = h
 ·rw [if_pos e, decide_eq_true e]; rfl
 ·rw [if_neg e, decide_eq_false e]
theorem Oq (P Q : List Pr) (h : List Int) : Yt (P ++ Q) h = match Yt P h with | some x => some x | none => Yt Q h := by
 induction P with
 | nil => rfl
 | cons x P ih =>
  rw [List.cons_append, YH, YH, ih]
  by_cases e : x.1 = h
  ·rw [if_pos e, if_pos e]
  ·rw [if_neg e, if_neg e]
theorem GH {n i : Nat} {h a : List Int} (hl : h.length = n) (ra : Row n a) : ∀ (l : List (List Int)) (q : Nat), (∀ b ∈ l, Row n b) → Yt (prJ n i a q l) h = (O9 a (decide (h = rng n)) i q (l.map (comp h))).map fun j => (i, j) := by
 intro l
 induction l with
 | nil => intro q _; rfl
 | cons b l ih =>
  intro q hr
  have rb := hr b (.head _)
  have e := ih (q + 1) fun x hx => hr x (.tail _ hx)
  have hi := FZ hl ra rb
  rw [List.map_cons, O9, prJ]
  by_cases hh : YA n a b = h
  ·have hc : (YA n a b ≠ rng n ∨ i < q) ↔ (a = comp h b ∧ (decide (h = rng n) = false ∨ i < q)) := by
    rw [decide_eq_false_iff_not, hh]
    exact ⟨fun z => ⟨hi.mpr hh, z⟩, fun z => z.2⟩
   by_cases hz : YA n a b ≠ rng n ∨ i < q
   ·rw [if_pos hz, if_pos (hc.mp hz), YH, if_pos hh]; rfl
   ·rw [if_neg hz, if_neg (fun z => hz (hc.mpr z)), e]
  ·have hn : ¬ (a = comp h b ∧ (decide (h = rng n) = false ∨ i < q)) := fun z => hh (hi.mp z.1)
   rw [if_neg hn]
   by_cases hz : YA n a b ≠ rng n ∨ i < q
   ·rw [if_pos hz, YH, if_neg hh, e]
   ·rw [if_neg hz, e]
theorem GS {n : Nat} {h : List Int} {R : List (List Int)} (hl : h.length = n) (hR : ∀ b ∈ R, Row n b) : ∀ (l : List (List Int)) (i : Nat), (∀ b ∈ l, Row n b) → Yt (prI n R i l) h = VR (R.map (comp h)) (decide (h = rng n)) i l := by
 intro l
 induction l with
 | nil => intro i _; rfl
 | cons a l ih =>
  intro i hr
  rw [prI, Oq, GH hl (hr a (.head _)) R 0 hR, ih (i + 1) fun x hx => hr x (.tail _ hx), VR]
  cases O9 a (decide (h = rng n)) i 0 (R.map (comp h)) <;> rfl
noncomputable def O5 (ks : List (List Int)) (h : List Int) : List (List Int) := if h ∈ ks then ks else ks ++ [h]
structure FD (P : List Pr) (ks : List (List Int)) (ds : List D) : Prop where
 len : ks.length = ds.length
 le : ks.length ≤ P.length
 at_ : ∀ k, (QB k ks).bind (fun j => ds[j]?) = (Yt P k).map ZR
theorem FD.nil : FD [] [] [] := ⟨rfl, Nat.le_refl _, fun _ => rfl⟩
theorem FD.hit {P : List Pr} {ks : List (List Int)} {ds : List D} (q : FD P ks ds) {k : List Int} {j : Nat} (h : QB k ks = some j) : ∃ x, Yt P k = some x ∧ ds[j]? = some (ZR x) := by
 have e := q.at_ k
 rw [h] at e
 have hj : j < ds.length := by rw [← q.len]; exact BV h
 simp only [Option.bind_some] at e
 rw [List.getElem?_eq_getElem hj] at e
 obtain ⟨i, h1, h2⟩ := Option.map_eq_some_iff.mp e.symm
 exact ⟨i, h1, by rw [List.getElem?_eq_getElem hj, h2]⟩
theorem FD.miss {P : List Pr} {ks : List (List Int)} {ds : List D} (q : FD P ks ds) {k : List Int} (h : QB k ks = none) : Yt P k = none := by
 have e := q.at_ k
 rw [h] at e
 cases hk : Yt P k with
 | none => rfl
 | some i => rw [hk] at e; cases e
theorem FD.old {P : List Pr} {ks : List (List Int)} {ds : List D} (q : FD P ks ds) {x : Pr} {j : Nat} (h : QB x.1 ks = some j) : FD (P ++ [x]) ks ds := by
 obtain ⟨i, h1, _⟩ := q.hit h
 refine ⟨q.len, by rw [List.length_append]; exact Nat.le_trans q.le (Nat.le_add_right _ _), fun k => ?_⟩
 rw [q.at_ k, Oq]
 cases hk : Yt P k with
 | some i => rfl
 | none =>
  show none = (Yt [x] k).map ZR
  rw [YH]
  by_cases hka : x.1 = k
  ·rw [hka] at h1; rw [h1] at hk; cases hk
  ·rw [if_neg hka]; rfl
theorem FD.new {P : List Pr} {ks : List (List Int)} {ds : List D} (q : FD P ks ds) {x : Pr} (h : QB x.1 ks = none) : FD (P ++ [x]) (ks ++ [x.1]) (ds ++ [ZR x.2]) := by
 have hp := q.miss h
 refine ⟨by rw [List.length_append, List.length_append, q.len]; rfl, by rw [List.length_append, List.length_append]; exact Nat.add_le_add_right q.le _, fun k => ?_⟩
 rw [WN, Oq]
 cases hk : QB k ks with
 | some j =>
  obtain ⟨i, h1, h2⟩ := q.hit hk
  rw [h1]
  simp only [Option.bind_some, Option.map_some]
  rw [List.getElem?_append_left (by rw [← q.len]; exact BV hk), h2]
 | none =>
  rw [q.miss hk]
  show (Option.map (· + ks.length) (QB k [x.1])).bind _ = (Yt [x] k).map ZR
  rw [YH]
  by_cases hka : x.1 = k
  ·rw [QB, if_pos hka, if_pos hka]
   show (ds ++ [ZR x.2])[0 + ks.length]? = some (ZR x.2)
   rw [Nat.zero_add, q.len, List.getElem?_append_right (Nat.le_refl _), Nat.sub_self]; rfl
  ·rw [QB, if_neg hka, if_neg hka]; rfl
noncomputable def kf (ks : List (List Int)) (P : List Pr) : List (List Int) := P.foldl (fun ks x => O5 ks x.1) ks
theorem WK (ks : List (List Int)) (x : Pr) (P : List Pr) : kf ks (x :: P) = kf (O5 ks x.1) P := rfl
theorem Gf (ks : List (List Int)) (P Q : List Pr) : kf ks (P ++ Q) = kf (kf ks P) Q := List.foldl_append
theorem Cz {ks : List (List Int)} {h : List Int} {j : Nat} (e : QB h ks = some j) : O5 ks h = ks := if_pos (List.mem_of_getElem? (UL e))
theorem Cq {ks : List (List Int)} {h : List Int} (e : QB h ks = none) : O5 ks h = ks ++ [h] := if_neg (Jj e)
theorem Cw {ks : List (List Int)} {ds : List D} {h : List Int} {v : D} (e : QB h ks = none) : VD h ks = ks ++ [h] ∧ VK h v ks ds = ds ++ [v] := by
 constructor
 ·conv => lhs; whnf; rw [e]
 ·conv => lhs; whnf; rw [e]
theorem GW (K : Frag) {n : Nat} {a b : List Int} (ra : Row n a) (rb : Row n b) : JN K [.tup (iL b)] = .ok (.sh (.tup (iL (turn n b)))) ∧ XZ K [.tup (iL a), .tup (iL (turn n b))] = .ok (.sh (.tup (iL (YA n a b)))) := by
 obtain ⟨f, e, i⟩ := Ex K rb
 obtain rfl := Inv.uniq rb i (Ur rb)
 exact ⟨e, O6 K ra (i.row rb)⟩
theorem EA (K : Frag) {n i : Nat} {a : List Int} (ra : Row n a) {x0 x2 : D} : ∀ (l : List (List Int)) (q : Nat) (P : List Pr) (ks : List (List Int)) (ds : List D) (v6 v7 v8 : Option T), (∀ b ∈ l, Row n b) → FD P ks ds → P.length + l.length ≤ 1000 → ∃ ks' ds' v6' v7' v8', FD (P ++ prJ n i a q l) ks' ds' ∧ ks' = kf ks (prJ n i a q l) ∧
  XF (Xg [6, 7]) (Qj (Qx 8 (Qy (XZ K) (Qb (eOp 5) (Qb (Qc (Qy (JN K) (Qb (eOp 7) Qi))) Qi)))) (Qj (sIf (JY (Di true (eOp 8) 3) (JY (eOr (QD neI (eOp 8) (eOp 1)) (eOr (QD ltI (eOp 4) (eOp 6)) Xm)) Yk)) (Qj (Uf 3 (eOp 8) (YL (QH (Q3 4) (QH (Q3 6) Zg)))) Qn) Qn) Qn)) (enF q l) [some (.sh x0), some (.sh (.tup (iL (rng n)))), some (.sh x2), some (.ow true (.dict ks ds)), some (.sh (.int i)), some (.sh (.tup (iL a))), v6, v7, v8] = .ok .next [some (.sh x0), some (.sh (.tup (iL (rng n)))), some (.sh x2), some (.ow true (.dict ks' ds')), some (.sh (.int i)), some (.sh (.tup (iL a))), v6', v7', v8'] := by
 intro l
 induction l with
 | nil => intro q P ks ds v6 v7 v8 _ fd _; exact ⟨ks, ds, v6, v7, v8, by rw [prJ, List.append_nil]; exact fd, rfl, rfl⟩
 | cons b l ih =>
  intro q P ks ds v6 v7 v8 hr fd hl
  rw [List.length_cons] at hl
  rw [BD, prJ]
  have rb := hr b (.head _)
  obtain ⟨e1, e2⟩ := GW K ra rb
  generalize YA n a b = h at e2 ⊢
  have hrow := JD h
  have hks : ks.length ≤ 1000000 := Nat.le_trans fd.le (by exact omP hl)
  have hr' : ∀ b ∈ l, Row n b := fun x hx => hr x (.tail _ hx)
  have nx : ∀ {P : List Pr} {ks : List (List Int)} {ds : List D}, FD P ks ds → P.length + l.length ≤ 1000 → _ := fun {P ks ds} fd hl => ih (q + 1) P ks ds (some (.sh (.int q))) (some (.sh (.tup (iL b)))) (some (.sh (.tup (iL h)))) hr' fd hl
  cases hk : QB h ks with
  | some j =>
   have t1 : ((QB h ks).isSome != true) = false := by rw [hk]; rfl
   have go : ∀ {P' : List Pr}, FD P' ks ds → P'.length + l.length ≤ 1000 → ∃ ks' ds' v6' v7' v8', FD (P' ++ prJ n i a (q + 1) l) ks' ds' ∧ ks' = kf ks (prJ n i a (q + 1) l) ∧ XF (Xg [6, 7]) (Qj (Qx 8 (Qy (XZ K) (Qb (eOp 5) (Qb (Qc (Qy (JN K) (Qb (eOp 7) Qi))) Qi)))) (Qj (sIf (JY (Di true (eOp 8) 3) (JY (eOr (QD neI (eOp 8) (eOp 1)) (eOr (QD ltI (eOp 4) (eOp 6)) Xm)) Yk)) (Qj (Uf 3 (eOp 8) (YL (QH (Q3 4) (QH (Q3 6) Zg)))) Qn) Qn) Qn)) (D.tup [D.int q, D.tup (iL b)] :: enF (q + 1) l) [some (.sh x0), some (.sh (.tup (iL (rng n)))), some (.sh x2), some (.ow true (.dict ks ds)), some (.sh (.int i)), some (.sh (.tup (iL a))), v6, v7, v8] = .ok .next [some (.sh x0), some (.sh (.tup (iL (rng n)))), some (.sh x2), some (.ow true (.dict ks' ds')), some (.sh (.int i)), some (.sh (.tup (iL a))), v6', v7', v8'] := fun {P'} fd' hl' => by
    obtain ⟨ks', ds', v6', v7', v8', q1, q2, q3⟩ := nx fd' hl'
    refine ⟨ks', ds', v6', v7', v8', q1, q2, ?_⟩
    repeat' (first|(with_reducible first|assumption|exact QO|exact BS|exact Cb|exact Ct|exact QK|exact QA|apply Qs|exact Xo|exact ZD|exact QQ|exact Qv|apply Qm|apply QM|apply QJ|apply Xs|apply Q9|apply Qz|apply QE|apply Ux|apply X6|apply Qw|apply Q6|apply Xf|apply YR|apply Zk|apply KP|apply Yi|apply JC|apply IW|apply I1|apply I2|apply I3|apply Lf|apply Lx|apply Lb|exact Lc|exact Ld|apply Le|apply Lq|apply Ls|apply Lu|apply QP|apply Lz)|exact Q2 rfl|exact QZ|decide)
   by_cases hz : h ≠ rng n ∨ i < q
   ·rw [if_pos hz]
    obtain ⟨ks', ds', v6', v7', v8', q1, q2, q3⟩ := go (fd.old (x := (h, (i, q))) hk) (by rw [List.length_append]; simp; exact omS hl)
    exact ⟨ks', ds', v6', v7', v8', by rw [List.append_assoc] at q1; exact q1, by rw [WK, Cz hk]; exact q2, q3⟩
   ·rw [if_neg hz]
    exact go fd (by exact omL hl)
  | none =>
   have t1 : ((QB h ks).isSome != true) = true := by rw [hk]; rfl
   have t2 := Bn h (rng n)
   by_cases hz : h ≠ rng n ∨ i < q
   ·rw [if_pos hz]
    obtain ⟨ks', ds', v6', v7', v8', q1, q2, q3⟩ := nx (fd.new (x := (h, (i, q))) hk) (by rw [List.length_append]; simp; exact omS hl)
    refine ⟨ks', ds', v6', v7', v8', by rw [List.append_assoc] at q1; exact q1, by rw [WK, Cq hk]; exact q2, ?_⟩
    obtain ⟨d1, d2⟩ := Cw (ds := ds) (v := .tup [.int i, .int q]) hk
    have hs : Uf 3 (eOp 8) (YL (QH (Q3 4) (QH (Q3 6) Zg))) [some (.sh x0), some (.sh (.tup (iL (rng n)))), some (.sh x2), some (.ow true (.dict ks ds)), some (.sh (.int i)), some (.sh (.tup (iL a))), some (.sh (.int q)), some (.sh (.tup (iL b))), some (.sh (.tup (iL h)))] = .ok .next [some (.sh x0), some (.sh (.tup (iL (rng n)))), some (.sh x2), some (.ow true (.dict (ks ++ [h]) (ds ++ [ZR (i, q)]))), some (.sh (.int i)), some (.sh (.tup (iL a))), some (.sh (.int q)), some (.sh (.tup (iL b))), some (.sh (.tup (iL h)))] :=
     Yi (t := .sh (.tup [.int i, .int q])) (d := .tup [.int i, .int q]) (ρ₁ := [some (.sh x0), some (.sh (.tup (iL (rng n)))), some (.sh x2), some (.ow true (.dict ks ds)), some (.sh (.int i)), some (.sh (.tup (iL a))), some (.sh (.int q)), some (.sh (.tup (iL b))), some (.sh (.tup (iL h)))]) rfl rfl (Zk rfl hks) rfl rfl (Zk rfl hks) hrow (by rw [d1, d2]; rfl)
    by_cases hh : h = rng n
    ·have hiq : i < q := hz.resolve_left fun z => z hh
     rw [Y6.mpr hh] at t2
     have t2 : neI (.tup (iL h)) (.tup (iL (rng n))) = some (.sh (.bool false)) := t2
     have t3 := VE (a := (i : Int)) (b := (q : Int)) (by exact Int.ofNat_lt.mpr hiq)
     repeat' (first|(with_reducible first|assumption|exact QO|exact BS|exact Cb|exact Ct|exact QK|exact QA|apply Qs|exact Xo|exact ZD|exact QQ|exact Qv|apply Qm|apply QM|apply QJ|apply Xs|apply Q9|apply Qz|apply QE|apply Ux|apply X6|apply Qw|apply Q6|apply Xf|apply YR|apply Zk|apply KP|apply Yi|apply JC|apply IW|apply I1|apply I2|apply I3|apply Lf|apply Lx|apply Lb|exact Lc|exact Ld|apply Le|apply Lq|apply Ls|apply Lu|apply QP|apply Lz)|exact Q2 rfl|exact QZ|decide)
    ·rw [W8.mpr hh] at t2
     have t2 : neI (.tup (iL h)) (.tup (iL (rng n))) = some (.sh (.bool true)) := t2
     repeat' (first|(with_reducible first|assumption|exact QO|exact BS|exact Cb|exact Ct|exact QK|exact QA|apply Qs|exact Xo|exact ZD|exact QQ|exact Qv|apply Qm|apply QM|apply QJ|apply Xs|apply Q9|apply Qz|apply QE|apply Ux|apply X6|apply Qw|apply Q6|apply Xf|apply YR|apply Zk|apply KP|apply Yi|apply JC|apply IW|apply I1|apply I2|apply I3|apply Lf|apply Lx|apply Lb|exact Lc|exact Ld|apply Le|apply Lq|apply Ls|apply Lu|apply QP|apply Lz)|exact Q2 rfl|exact QZ|decide)
   ·rw [if_neg hz]
    obtain ⟨hh, hiq⟩ := not_or.mp hz
    rw [Y6.mpr (Decidable.of_not_not hh)] at t2
    have t2 : neI (.tup (iL h)) (.tup (iL (rng n))) = some (.sh (.bool false)) := t2
    have t3 := VH (a := (i : Int)) (b := (q : Int)) (by (exact_mod_cast hiq))
    obtain ⟨ks', ds', v6', v7', v8', q1, q2, q3⟩ := nx fd (by exact omL hl)
    refine ⟨ks', ds', v6', v7', v8', q1, q2, ?_⟩
    repeat' (first|(with_reducible first|assumption|exact QO|exact BS|exact Cb|exact Ct|exact QK|exact QA|apply Qs|exact Xo|exact ZD|exact QQ|exact Qv|apply Qm|apply QM|apply QJ|apply Xs|apply Q9|apply Qz|apply QE|apply Ux|apply X6|apply Qw|apply Q6|apply Xf|apply YR|apply Zk|apply KP|apply Yi|apply JC|apply IW|apply I1|apply I2|apply I3|apply Lf|apply Lx|apply Lb|exact Lc|exact Ld|apply Le|apply Lq|apply Ls|apply Lu|apply QP|apply Lz)|exact Q2 rfl|exact QZ|decide)
theorem Br (n i : Nat) (a : List Int) : ∀ (l : List (List Int)) (q : Nat), (prJ n i a q l).length ≤ l.length := by
 intro l
 induction l with
 | nil => intro q; exact Nat.le_refl _
 | cons b l ih =>
  intro q
  rw [prJ]
  by_cases hz : YA n a b ≠ rng n ∨ i < q
  ·rw [if_pos hz]; exact Nat.succ_le_succ (ih _)
  ·rw [if_neg hz]; exact Nat.le_succ_of_le (ih _)
theorem D2 (K : Frag) {n : Nat} {R : List (List Int)} (hR : ∀ b ∈ R, Row n b) {x0 : D} : ∀ (l : List (List Int)) (i : Nat) (P : List Pr) (ks : List (List Int)) (ds : List D) (v4 v5 v6 v7 v8 : Option T), (∀ b ∈ l, Row n b) → FD P ks ds → P.length + (l.length + 1) * R.length ≤ 1000 → ∃ ks' ds' v4' v5' v6' v7' v8', FD (P ++ prI n R i l) ks' ds' ∧ ks' = kf ks (prI n R i l) ∧
  XF (Xg [4, 5]) (Qj (ZI (WA (Q3 2)) (Xg [6, 7]) (Qj (Qx 8 (Qy (XZ K) (Qb (eOp 5) (Qb (Qc (Qy (JN K) (Qb (eOp 7) Qi))) Qi)))) (Qj (sIf (JY (Di true (eOp 8) 3) (JY (eOr (QD neI (eOp 8) (eOp 1)) (eOr (QD ltI (eOp 4) (eOp 6)) Xm)) Yk)) (Qj (Uf 3 (eOp 8) (YL (QH (Q3 4) (QH (Q3 6) Zg)))) Qn) Qn) Qn))) Qn) (enF i l) [some (.sh x0), some (.sh (.tup (iL (rng n)))), some (.sh (.list (Ql R))), some (.ow true (.dict ks ds)), v4, v5, v6, v7, v8] = .ok .next [some (.sh x0), some (.sh (.tup (iL (rng n)))), some (.sh (.list (Ql R))), some (.ow true (.dict ks' ds')), v4', v5', v6', v7', v8'] := by
 intro l
 induction l with
 | nil => intro i P ks ds v4 v5 v6 v7 v8 _ fd _; exact ⟨ks, ds, v4, v5, v6, v7, v8, by rw [prI, List.append_nil]; exact fd, rfl, rfl⟩
 | cons a l ih =>
  intro i P ks ds v4 v5 v6 v7 v8 hr fd hl
  rw [List.length_cons, Nat.add_mul, Nat.one_mul] at hl
  rw [BD, prI]
  obtain ⟨ks₁, ds₁, v6₁, v7₁, v8₁, q1, q2, q3⟩ := EA K (i := i) (hr a (.head _)) (x0 := x0) (x2 := .list (Ql R)) R 0 P ks ds v6 v7 v8 hR fd (Nat.le_trans (Nat.add_le_add_left (Nat.le_add_left _ _) _) hl)
  rw [← C7] at q3
  have hj := Br n i a R 0
  obtain ⟨ks₂, ds₂, w4, w5, w6, w7, w8, p1, p2, p3⟩ := ih (i + 1) (P ++ prJ n i a 0 R) ks₁ ds₁ (some (.sh (.int i))) (some (.sh (.tup (iL a)))) v6₁ v7₁ v8₁ (fun x hx => hr x (.tail _ hx)) q1 (by rw [List.length_append]; omega)
  refine ⟨ks₂, ds₂, w4, w5, w6, w7, w8, by rw [List.append_assoc] at p1; exact p1, by rw [Gf, ← q2]; exact p2, ?_⟩
  repeat' (first|(with_reducible first|assumption|exact QO|exact OT|exact Fr|exact Qv|apply Bh|apply Qw|apply Xx|apply JC|apply Ly|apply Lo QO|apply Lo ZJ|apply Lq|apply QP|apply Lz)|exact Xh rfl|decide)
noncomputable def ZW (P : List Pr) (h : List Int) : D := .tup [.tup (iL h), .int ((Yt P h).getD (0, 0)).1, .int ((Yt P h).getD (0, 0)).2]
theorem B4 {ρ : AEnv} {i : Nat} {ks : List (List Int)} {ds : List D} (h : Zp ρ i = some (ks, ds)) (hl : ks.length ≤ 1000) (hn : [] ∉ ks) : JL i ρ = .ok (.ow true (.list (Ql (XA ks)))) ρ := by
 conv => lhs; whnf; rw [h]
 exact if_pos ⟨hl, hn⟩
theorem WE {k : List Int} {ks : List (List Int)} (h : k ∈ ks) : ∃ j, QB k ks = some j := by
 cases e : QB k ks with
 | none => exact absurd h (Jj e)
 | some j => exact ⟨j, rfl⟩
theorem FJ (K : Frag) {P : List Pr} {ks : List (List Int)} {ds : List D} (fd : FD P ks ds) (l : List (List Int)) (hl : l.length ≤ 1000) (hm : ∀ h ∈ l, h ∈ ks) : JA (QG 1) Uj (YL (QH (Q3 1) (QH (Qr QY (Qc (Ki 2 (eOp 1))) (Qc (Qe (.int 0)))) (QH (Qr QY (Qc (Ki 2 (eOp 1))) (Qc (Qe (.int 1)))) Zg)))) [none, none, some (.ow false (.dict ks ds))] (Ql l) [] = some (l.map (ZW P)) := by
 have q := OO (b := QG 1) (t := Uj) (f := (YL (QH (Q3 1) (QH (Qr QY (Qc (Ki 2 (eOp 1))) (Qc (Qe (.int 0)))) (QH (Qr QY (Qc (Ki 2 (eOp 1))) (Qc (Qe (.int 1)))) Zg))))) (ρ₀ := [none, none, some (.ow false (.dict ks ds))]) (q := fun _ => true) (g := fun d => match Yr d with | some h => ZW P h | none => .none) (Ql l) [] (fun d hd => ?_) (by rw [XG]; simp; exact omB hl)
 ·rw [List.nil_append, List.filter_eq_self.mpr (fun _ _ => rfl)] at q
  rw [q]
  unfold Ql
  rw [List.map_map]
  refine congrArg some (List.map_congr_left fun h _ => ?_)
  show (match Yr (.tup (iL h)) with | some h => ZW P h | none => .none) = ZW P h
  rw [JD]
 ·obtain ⟨h, hh, rfl⟩ := List.mem_map.mp hd
  have er := JD h
  obtain ⟨j, hj⟩ := WE (hm h hh)
  obtain ⟨x, hx, hd⟩ := fd.hit hj
  refine ⟨[none, some (.sh (.tup (iL h))), some (.ow false (.dict ks ds))], [none, some (.sh (.tup (iL h))), some (.ow false (.dict ks ds))], rfl, rfl, fun _ => ?_⟩
  have e0 : QY (ZR x) (.int 0) = some (.sh (.int x.1)) := rfl
  have e1 : QY (ZR x) (.int 1) = some (.sh (.int x.2)) := rfl
  refine ⟨.sh (.tup [.tup (iL h), .int x.1, .int x.2]), [none, some (.sh (.tup (iL h))), some (.ow false (.dict ks ds))], ?_, ?_⟩
  ·repeat' (first|(with_reducible first|assumption|exact QO|exact QK|exact U0|apply UZ|exact Zc|exact Zr|apply XO|apply Q9|apply Qz|apply XR|apply Jp|apply YR|apply GX|apply IW|apply IZ|apply IY|apply I4|apply I5|apply I6)|exact Xh rfl|exact QZ|decide)
  ·show D.tup _ = (match Yr (.tup (iL h)) with | some h => ZW P h | none => .none)
   rw [er]
   show _ = ZW P h
   unfold ZW
   rw [hx]; rfl
noncomputable def prs (n : Nat) (chs : List (List Nat)) : List Pr := prI n (Qu (rng n) chs) 0 (Qu (rng n) chs)
noncomputable def tks (n : Nat) (chs : List (List Nat)) : List (List Int) := kf [] (prs n chs)
noncomputable def ZG (n : Nat) (chs : List (List Nat)) : List D := (XA (tks n chs)).map (ZW (prs n chs))
theorem Gq {n : Nat} {R : List (List Int)} (hR : ∀ b ∈ R, Row n b) : ∀ (l : List (List Int)) (i : Nat), (∀ b ∈ l, Row n b) → ∀ x ∈ prI n R i l, Row n x.1 := by
 have inn : ∀ (i : Nat) (a : List Int), Row n a → ∀ (l : List (List Int)) (q : Nat), (∀ b ∈ l, Row n b) → ∀ x ∈ prJ n i a q l, Row n x.1 := by
  intro i a ra l
  induction l with
  | nil => intro q _ x hx; cases hx
  | cons b l ih =>
   intro q hr x hx
   rw [prJ] at hx
   by_cases hz : YA n a b ≠ rng n ∨ i < q
   ·rw [if_pos hz] at hx
    cases hx with
    | head => exact EY ra (hr b (.head _))
    | tail _ hx => exact ih _ (fun y hy => hr y (.tail _ hy)) x hx
   ·rw [if_neg hz] at hx; exact ih _ (fun y hy => hr y (.tail _ hy)) x hx
 intro l
 induction l with
 | nil => intro i _ x hx; cases hx
 | cons a l ih =>
  intro i hr x hx
  rw [prI] at hx
  rcases List.mem_append.mp hx with hx | hx
  ·exact inn i a (hr a (.head _)) R 0 hR x hx
  ·exact ih _ (fun y hy => hr y (.tail _ hy)) x hx
theorem Hp {h : List Int} : ∀ (P : List Pr) (ks : List (List Int)), h ∈ kf ks P → h ∈ ks ∨ ∃ x ∈ P, x.1 = h := by
 intro P
 induction P with
 | nil => intro ks hh; exact .inl hh
 | cons x P ih =>
  intro ks hh
  rw [WK] at hh
  rcases ih _ hh with hh | ⟨y, hy, e⟩
  ·unfold O5 at hh
   by_cases hx : x.1 ∈ ks
   ·rw [if_pos hx] at hh; exact .inl hh
   ·rw [if_neg hx] at hh
    rcases List.mem_append.mp hh with hh | hh
    ·exact .inl hh
    ·exact .inr ⟨x, .head _, (List.mem_singleton.mp hh).symm⟩
  ·exact .inr ⟨y, .tail _ hy, e⟩
theorem VX {n : Nat} {chs : List (List Nat)} (hc : Chs n chs) {h : List Int} (hh : h ∈ tks n chs) : Row n h := by
 have hR := JE hc.all (WW hc.h3 hc.h12)
 rcases Hp _ _ hh with hh | ⟨x, hx, rfl⟩
 ·cases hh
 ·exact Gq hR _ 0 hR x hx
theorem F0 {n : Nat} {chs : List (List Nat)} (hc : Chs n chs) : [] ∉ tks n chs := fun hh => by
 have := (VX hc hh).len
 have h3 := hc.h3
 simp at this; lia
theorem Gs {n : Nat} {R : List (List Int)} : ∀ (l : List (List Int)) (i : Nat), (prI n R i l).length ≤ l.length * R.length := by
 intro l
 induction l with
 | nil => intro i; exact Nat.zero_le _
 | cons a l ih =>
  intro i
  rw [prI, List.length_append, List.length_cons, Nat.add_mul, Nat.one_mul, Nat.add_comm]
  exact Nat.add_le_add (ih _) (Br n i a R 0)
theorem FC (K : Frag) {n : Nat} {chs : List (List Nat)} (hc : Chs n chs) (hl : chs.length ≤ 12) {x0 : D} : ∃ ds v4 v5 v6 v7 v8, FD (prs n chs) (tks n chs) ds ∧ (tks n chs).length ≤ 1000 ∧
  XF (Xg [4, 5]) (Qj (ZI (WA (Q3 2)) (Xg [6, 7]) (Qj (Qx 8 (Qy (XZ K) (Qb (eOp 5) (Qb (Qc (Qy (JN K) (Qb (eOp 7) Qi))) Qi)))) (Qj (sIf (JY (Di true (eOp 8) 3) (JY (eOr (QD neI (eOp 8) (eOp 1)) (eOr (QD ltI (eOp 4) (eOp 6)) Xm)) Yk)) (Qj (Uf 3 (eOp 8) (YL (QH (Q3 4) (QH (Q3 6) Zg)))) Qn) Qn) Qn))) Qn) (XW (Ql (Qu (rng n) chs))) [some (.sh x0), some (.sh (.tup (iL (rng n)))), some (.sh (.list (Ql (Qu (rng n) chs)))), some (.ow true (.dict [] [])), none, none, none, none, none] = .ok .next [some (.sh x0), some (.sh (.tup (iL (rng n)))), some (.sh (.list (Ql (Qu (rng n) chs)))), some (.ow true (.dict (tks n chs) ds)), v4, v5, v6, v7, v8] := by
 have hR := JE hc.all (WW hc.h3 hc.h12)
 have hlen := YG chs (rng n)
 have hm : ((Qu (rng n) chs).length + 1) * (Qu (rng n) chs).length ≤ 1000 := Nat.le_trans (Nat.mul_le_mul (show _ ≤ 14 by lia) (show _ ≤ 13 by lia)) (by decide)
 obtain ⟨ks, ds, v4, v5, v6, v7, v8, q1, q2, q3⟩ := D2 K hR (x0 := x0) (Qu (rng n) chs) 0 [] [] [] none none none none none hR FD.nil (by simpa using hm)
 rw [List.nil_append] at q1
 subst q2
 exact ⟨ds, v4, v5, v6, v7, v8, q1, Nat.le_trans q1.le (Nat.le_trans (Gs _ _) (Nat.le_trans (Nat.mul_le_mul_right _ (Nat.le_succ _)) hm)), q3⟩
theorem Dh (K : Frag) {n : Nat} {chs ws : List (List Nat)} (hc : Chs n chs) (hl : chs.length ≤ 12) : UO K [mth n chs ws] = .ok (.ow true (.list (ZG n chs))) := by
 obtain ⟨ds, v4, v5, v6, v7, v8, fd, h1000, q⟩ := FC K hc hl (x0 := mth n chs ws)
 have e1 := Bx K n hc.h3 hc.h12
 have e2 := EI K (ws := ws) (WW hc.h3 hc.h12) hc
 have e3 := FJ K fd (XA (tks n chs)) (by rw [J8]; exact h1000) fun h hh => Yz hh
 have e4 : JL 3 [some (.sh (mth n chs ws)), some (.sh (.tup (iL (rng n)))), some (.sh (.list (Ql (Qu (rng n) chs)))), some (.ow true (.dict (tks n chs) ds)), v4, v5, v6, v7, v8] = .ok (.ow true (.list (Ql (XA (tks n chs))))) [some (.sh (mth n chs ws)), some (.sh (.tup (iL (rng n)))), some (.sh (.list (Ql (Qu (rng n) chs)))), some (.ow true (.dict (tks n chs) ds)), v4, v5, v6, v7, v8] := B4 (YR rfl) h1000 (F0 hc)
 unfold UO Bu
 refine' XB [some (.sh (mth n chs ws)), none, none, none, none, none, none, none, none] rfl rfl ?_ XE
 show _ = Res.ok (Fl.ret (T.ow true (.list ((XA (tks n chs)).map (ZW (prs n chs)))))) _
 unfold mth at *
 repeat' (first|(with_reducible first|assumption|exact QO|exact ZJ|exact B1|exact YX|exact Ui|exact QK|exact QA|apply Qs|exact Uv|apply Y9|apply UN|exact IF|exact F2|exact Xo|apply Qm|apply QJ|apply Qz|apply QE|apply QR|apply Bh|apply Yq|apply Qw|apply XC|apply Xf|apply Xx|apply V3|apply Fk|apply WS|apply YR|apply IW|apply I1|apply I2|apply I3|apply Ln|apply Lv|apply Lx|apply Ly|apply Lo QO|apply Lo ZJ|apply Lq|exact Lr|apply LB)|exact Q2 rfl|apply HA rfl|exact QZ|decide)
noncomputable def HQ : List (List Int) := [[2, 1, 0], [1, 2, 0], [1, 0, 2], [2, 0, 1], [0, 2, 1], [0, 1, 2]]
noncomputable def Hs : List (List Int) := [[3, 2, 1, 0], [2, 3, 1, 0], [2, 1, 3, 0], [2, 1, 0, 3], [3, 1, 2, 0], [1, 3, 2, 0], [1, 2, 3, 0], [1, 2, 0, 3], [3, 1, 0, 2], [1, 3, 0, 2], [1, 0, 3, 2], [1, 0, 2, 3], [3, 2, 0, 1], [2, 3, 0, 1], [2, 0, 3, 1], [2, 0, 1, 3], [3, 0, 2, 1], [0, 3, 2, 1], [0, 2, 3, 1], [0, 2, 1, 3], [3, 0, 1, 2], [0, 3, 1, 2], [0, 1, 3, 2], [0, 1, 2, 3]]
theorem Dc (K : Frag) : YJ K [.int 3] = .ok (.sh (.list (Ql HQ))) := by kernel_rfl
theorem Dp (K : Frag) : YJ K [.int 4] = .ok (.sh (.list (Ql Hs))) := by kernel_rfl
theorem B3 (K : Frag) {a : List Int} {A B : List (List Int)} {same : Bool} {i : Nat} (ha : A[i]? = some a) (hA : A.length ≤ 1000) (hB : B.length ≤ 1000) : ∀ (rest : List (List Int)) (p : Nat) (v : Option T), B.drop p = rest → ∃ ρ v',
  XF (QG 4) (Qj (sIf (JY (QD eqI (Qc (Qr QY (eOp 0) (eOp 3))) (Qc (Qr QY (eOp 1) (eOp 4)))) (JY (eOr (ZH (Q5 (eOp 2))) (eOr (QD ltI (eOp 3) (eOp 4)) Xm)) Yk)) (Qj (Zq (YL (QH (Q3 3) (QH (Q3 4) Zg)))) Qn) Qn) Qn) (nL (List.range' p rest.length)) [some (.sh (.list (Ql A))), some (.sh (.list (Ql B))), some (.sh (.bool same)), some (.sh (.int i)), v] = (match O9 a same i p rest with | some j => .ok (.ret (.sh (ZR (i, j)))) ρ | none => .ok .next [some (.sh (.list (Ql A))), some (.sh (.list (Ql B))), some (.sh (.bool same)), some (.sh (.int i)), v']) := by
 intro rest
 induction rest with
 | nil => intro p v _; exact ⟨[], v, rfl⟩
 | cons b r ih =>
  intro p v hd
  obtain ⟨hb, hr⟩ := UI hd
  have e1 := Oj ha hA
  have e2 := Oj hb hB
  have e3 := VS a b
  show ∃ ρ v', XF _ _ (D.int (p : Nat) :: nL (List.range' (p + 1) r.length)) _ = _
  rw [O9]
  by_cases hab : a = b
  ·subst hab
   rw [Y6.mpr rfl] at e3
   cases same with
   | false =>
    rw [if_pos ⟨rfl, .inl rfl⟩]
    refine ⟨[some (.sh (.list (Ql A))), some (.sh (.list (Ql B))), some (.sh (.bool false)), some (.sh (.int i)), some (.sh (.int p))], v, ?_⟩
    show _ = Res.ok (Fl.ret (T.sh (.tup [.int (i : Nat), .int (p : Nat)]))) _
    repeat' (first|(with_reducible first|assumption|exact QO|exact OT|exact QK|exact U0|apply UZ|exact Zr|exact ZD|exact QQ|exact Qv|apply Ze|apply Xs|apply QW|apply Q9|apply Qz|apply XR|apply Q8|apply X0|apply Ux|apply X6|apply Jp|apply Qw|apply Q6|apply XC|apply IW|apply IY|apply I4|apply I5|apply I6|apply I8|apply Lf|apply Lg|apply Lv|exact I9|exact La|apply Lb|exact Lc|exact Ld|apply Le|apply Lq|exact Lr|apply Ls|apply Lu|apply QP|apply Xa|apply Lz|exact LA)|exact Xh rfl|exact QZ|decide)
   | true =>
    by_cases hip : i < p
    ·rw [if_pos ⟨rfl, .inr hip⟩]
     have e5 := VE (a := (i : Int)) (b := (p : Int)) (by exact Int.ofNat_lt.mpr hip)
     refine ⟨[some (.sh (.list (Ql A))), some (.sh (.list (Ql B))), some (.sh (.bool true)), some (.sh (.int i)), some (.sh (.int p))], v, ?_⟩
     show _ = Res.ok (Fl.ret (T.sh (.tup [.int (i : Nat), .int (p : Nat)]))) _
     repeat' (first|(with_reducible first|assumption|exact QO|exact OT|exact QK|exact U0|apply UZ|exact Zr|exact ZD|exact QQ|exact Qv|apply Ze|apply Xs|apply QW|apply Q9|apply Qz|apply XR|apply Q8|apply X0|apply Ux|apply X6|apply Jp|apply Qw|apply Q6|apply XC|apply IW|apply IY|apply I4|apply I5|apply I6|apply I8|apply Lf|apply Lg|apply Lv|exact I9|exact La|apply Lb|exact Lc|exact Ld|apply Le|apply Lq|exact Lr|apply Ls|apply Lu|apply QP|apply Xa|apply Lz|exact LA)|exact Xh rfl|exact QZ|decide)
    ·rw [if_neg (by rintro ⟨_, h | h⟩; cases h; exact hip h)]
     have e5 := VH (a := (i : Int)) (b := (p : Int)) (by (exact_mod_cast hip))
     obtain ⟨ρ, v', h⟩ := ih (p + 1) (some (.sh (.int p))) hr
     refine ⟨ρ, v', ?_⟩
     generalize (match O9 a true i (p + 1) r with | some j => Res.ok (Fl.ret (T.sh (ZR (i, j)))) ρ | none => .ok .next [some (.sh (.list (Ql A))), some (.sh (.list (Ql B))), some (.sh (.bool true)), some (.sh (.int i)), v']) = X at h ⊢
     repeat' (first|(with_reducible first|assumption|exact QO|exact OT|exact QK|exact U0|apply UZ|exact Zr|exact ZD|exact QQ|exact Qv|apply Ze|apply Xs|apply QW|apply Q9|apply Qz|apply XR|apply Q8|apply X0|apply Ux|apply X6|apply Jp|apply Qw|apply Q6|apply XC|apply IW|apply IY|apply I4|apply I5|apply I6|apply I8|apply Lf|apply Lg|apply Lv|exact I9|exact La|apply Lb|exact Lc|exact Ld|apply Le|apply Lq|exact Lr|apply Ls|apply Lu|apply QP|apply Xa|apply Lz|exact LA)|exact Xh rfl|exact QZ|decide)
  ·rw [if_neg (fun h => hab h.1)]
   rw [W8.mpr hab] at e3
   obtain ⟨ρ, v', h⟩ := ih (p + 1) (some (.sh (.int p))) hr
   refine ⟨ρ, v', ?_⟩
   generalize (match O9 a same i (p + 1) r with | some j => Res.ok (Fl.ret (T.sh (ZR (i, j)))) ρ | none => .ok .next [some (.sh (.list (Ql A))), some (.sh (.list (Ql B))), some (.sh (.bool same)), some (.sh (.int i)), v']) = X at h ⊢
   repeat' (first|(with_reducible first|assumption|exact QO|exact OT|exact QK|exact U0|apply UZ|exact Zr|exact ZD|exact QQ|exact Qv|apply Ze|apply Xs|apply QW|apply Q9|apply Qz|apply XR|apply Q8|apply X0|apply Ux|apply X6|apply Jp|apply Qw|apply Q6|apply XC|apply IW|apply IY|apply I4|apply I5|apply I6|apply I8|apply Lf|apply Lg|apply Lv|exact I9|exact La|apply Lb|exact Lc|exact Ld|apply Le|apply Lq|exact Lr|apply Ls|apply Lu|apply QP|apply Xa|apply Lz|exact LA)|exact Xh rfl|exact QZ|decide)
theorem Cs (K : Frag) {A B : List (List Int)} {same : Bool} (hA : A.length ≤ 1000) (hB : B.length ≤ 1000) : ∀ (rest : List (List Int)) (p : Nat) (v w : Option T), A.drop p = rest → ∃ ρ v' w',
  XF (QG 3) (Qj (ZI (Q4 (QX XT (Qb (Qc (QX Y2 (Qb (eOp 1) Qi))) Qi))) (QG 4) (Qj (sIf (JY (QD eqI (Qc (Qr QY (eOp 0) (eOp 3))) (Qc (Qr QY (eOp 1) (eOp 4)))) (JY (eOr (ZH (Q5 (eOp 2))) (eOr (QD ltI (eOp 3) (eOp 4)) Xm)) Yk)) (Qj (Zq (YL (QH (Q3 3) (QH (Q3 4) Zg)))) Qn) Qn) Qn)) Qn) (nL (List.range' p rest.length)) [some (.sh (.list (Ql A))), some (.sh (.list (Ql B))), some (.sh (.bool same)), v, w] = (match VR B same p rest with | some x => .ok (.ret (.sh (ZR x))) ρ | none => .ok .next [some (.sh (.list (Ql A))), some (.sh (.list (Ql B))), some (.sh (.bool same)), v', w']) := by
 intro rest
 induction rest with
 | nil => intro p v w _; exact ⟨[], v, w, rfl⟩
 | cons a r ih =>
  intro p v w hd
  obtain ⟨ha, hr⟩ := UI hd
  have e1 := Z2 (ds := Ql B) (by rw [XG]; exact omB hB)
  rw [XG] at e1
  have e2 : XT [.int (B.length : Nat)] = some (.sh (.range 0 (B.length : Nat) 1)) := rfl
  have e3 := WD hB
  obtain ⟨ρ, v', h⟩ := B3 K (same := same) ha hA hB B 0 w rfl
  show ∃ ρ v' w', XF _ _ (D.int (p : Nat) :: nL (List.range' (p + 1) r.length)) _ = _
  rw [VR]
  cases hj : O9 a same p 0 B with
  | some j =>
   rw [hj] at h
   simp only at h
   refine ⟨ρ, v, w, ?_⟩
   show _ = Res.ok (Fl.ret (T.sh (ZR (p, j)))) ρ
   repeat' (first|(with_reducible first|assumption|exact QO|exact Ui|exact QK|exact QA|apply Qs|exact Xo|exact Qv|apply Qm|apply QJ|apply Qz|apply Xl|apply QR|apply Qw|apply Xx|apply IW|apply I0|apply I2|apply I3|apply Ln|apply Ly|apply Lq|exact Lr|apply QP|apply Xa|apply Lz|exact LA)|exact QZ|decide)
  | none =>
   rw [hj] at h
   simp only at h
   obtain ⟨ρ₂, v₂, w₂, h₂⟩ := ih (p + 1) (some (.sh (.int p))) v' hr
   refine ⟨ρ₂, v₂, w₂, ?_⟩
   show _ = (match VR B same (p + 1) r with | some x => Res.ok (Fl.ret (T.sh (ZR x))) ρ₂ | none => .ok .next [some (.sh (.list (Ql A))), some (.sh (.list (Ql B))), some (.sh (.bool same)), v₂, w₂])
   generalize (match VR B same (p + 1) r with | some x => Res.ok (Fl.ret (T.sh (ZR x))) ρ₂ | none => .ok .next [some (.sh (.list (Ql A))), some (.sh (.list (Ql B))), some (.sh (.bool same)), v₂, w₂]) = X at h₂ ⊢
   repeat' (first|(with_reducible first|assumption|exact QO|exact Ui|exact QK|exact QA|apply Qs|exact Xo|exact Qv|apply Qm|apply QJ|apply Qz|apply Xl|apply QR|apply Qw|apply Xx|apply IW|apply I0|apply I2|apply I3|apply Ln|apply Ly|apply Lq|exact Lr|apply QP|apply Xa|apply Lz|exact LA)|exact QZ|decide)
theorem K4 (K : Frag) {A B : List (List Int)} (same : Bool) (hA : A.length ≤ 1000) (hB : B.length ≤ 1000) : Xe K [.list (Ql A), .list (Ql B), .bool same] = .ok (.sh (BR (VR B same 0 A))) := by
 have e1 := Z2 (ds := Ql A) (by rw [XG]; exact omB hA)
 rw [XG] at e1
 have e2 : XT [.int (A.length : Nat)] = some (.sh (.range 0 (A.length : Nat) 1)) := rfl
 have e3 := WD hA
 obtain ⟨ρ, v', w', h⟩ := Cs K (same := same) hA hB A 0 none none rfl
 unfold Xe Us
 cases hj : VR B same 0 A with
 | some x =>
  rw [hj] at h
  simp only at h
  show _ = FOut.ok (.sh (ZR x))
  refine' XB [some (.sh (.list (Ql A))), some (.sh (.list (Ql B))), some (.sh (.bool same)), none, none] rfl rfl ?_ XE
  repeat' (first|(with_reducible first|assumption|exact QO|exact QK|exact QA|apply Qs|exact X7|exact Xo|apply Qm|apply QJ|apply Qz|apply Xl|apply QR|apply Qw|apply XC|apply Xx|apply IW|apply I0|apply I2|apply I3|apply Ln|apply Lv|apply Ly|apply Lq|exact Lr)|exact QZ|decide)
 | none =>
  rw [hj] at h
  simp only at h
  show _ = FOut.ok (.sh .none)
  refine' XB [some (.sh (.list (Ql A))), some (.sh (.list (Ql B))), some (.sh (.bool same)), none, none] rfl rfl ?_ XE
  repeat' (first|(with_reducible first|assumption|exact QO|exact QK|exact QA|apply Qs|exact X7|exact Xo|apply Qm|apply QJ|apply Qz|apply Xl|apply QR|apply Qw|apply XC|apply Xx|apply IW|apply I0|apply I2|apply I3|apply Ln|apply Lv|apply Ly|apply Lq|exact Lr)|exact QZ|decide)
theorem Gu {ds : List D} (p : Nat) : Ke ds none (some (p : Int)) = ds.take p := by
 by_cases h : p ≤ ds.length
 ·exact F3 h
 ·unfold Ke
  simp only [Option.elim, List.drop_zero, clipAt_nat, Nat.sub_zero]
  rw [Nat.min_eq_right (by exact Nat.le_of_not_le h), List.take_of_length_le (Nat.le_refl _), List.take_of_length_le (by exact Nat.le_of_not_le h)]
theorem Cc {l : List (List Nat)} (p : Nat) (h : l.length ≤ 1000) : Uk (.list (chD l)) none (some (p : Int)) = some (.ow true (.list (chD (l.take p)))) := by
 rw [Ox (by rw [ZN]; exact omB h), Gu]
 unfold chD; rw [List.map_take]
theorem C0 (K : Frag) {n : Nat} (hn : n ≤ 12) {x1 x2 : D} : ∀ (cs : List (List Nat)) (a : List Int) (v : Option T), (∀ c ∈ cs, Change n c) → a.length = n → ∃ v',
  XF (QG 3) (Qj (Qx 0 (Qy (Zy K) (Qb (eOp 0) (Qb (eOp 3) Qi)))) Qn) (chD cs) [some (.sh (.tup (iL a))), some (.sh x1), some (.sh x2), v] = .ok .next [some (.sh (.tup (iL (cs.foldl rung a)))), some (.sh x1), some (.sh x2), v'] := by
 intro cs
 induction cs with
 | nil => intro a v _ _; exact ⟨v, rfl⟩
 | cons c cs ih =>
  intro a v hc ha
  have e1 := U3 K ha hn (hc c (.head _)).ok
  obtain ⟨v', h⟩ := ih (rung a c) (some (.sh (.tup (nD c)))) (fun x hx => hc x (.tail _ hx)) (by rw [YM]; exact ha)
  refine ⟨v', ?_⟩
  show XF _ _ (D.tup (nD c) :: chD cs) _ = _
  rw [List.foldl_cons]
  repeat' (first|(with_reducible first|assumption|exact IS|exact Ui|exact QA|apply Qs|exact Qv|apply Qm|apply QM|apply QE|apply Qw|apply Xf|apply I1|apply I2|apply Lx|apply Lq|apply QP|apply Xa|apply Lz)|exact Q2 rfl|exact QZ|decide)
theorem W6 (K : Frag) {n : Nat} {chs : List (List Nat)} {a : List Int} (hc : Chs n chs) (ha : a.length = n) (j : Nat) : Za K [.tup (iL a), .list (chD chs), .int j] = .ok (.sh (.tup (iL (Ca a (chs.take j))))) := by
 have e1 := Cc (l := chs) j (by have := hc.len; exact omB this)
 obtain ⟨v', h⟩ := C0 K hc.h12 (x1 := .list (chD chs)) (x2 := .int j) (chs.take j).reverse a none (fun c hx => hc.all c (List.mem_of_mem_take (List.mem_reverse.mp hx))) ha
 have er : chD (chs.take j).reverse = (chD (chs.take j)).reverse := List.map_reverse
 rw [er] at h
 unfold Za Jr Ca
 refine' XB [some (.sh (.tup (iL a))), some (.sh (.list (chD chs))), some (.sh (.int j)), none] rfl rfl ?_ XE
 repeat' (first|(with_reducible first|assumption|exact ZJ|exact Ye|apply Q9|apply JM|apply YV|apply Qw|apply Xx|apply Hv|apply Ly|apply Lq|exact Lr)|exact Ef rfl|exact QZ|decide)
theorem Ce (K : Frag) {x0 x1 : D} : ∀ (l : List Int) (v : Option T), ∃ v', XF (QG 2) (Qj (sIf (eOr (ZH (Q5 (Qc (QX (QV K) (Qb (eOp 2) (Qb (Qc (Qe (.glob (.type "int")))) Qi)))))) (eOr (Q5 (Qc (QX (QV K) (Qb (eOp 2) (Qb (Qc (Qe (.glob (.type "bool")))) Qi))))) Xm)) (Qj (Zq (Qe (.bool false))) Qn) Qn) Qn) (iL l) [some (.sh x0), some (.sh x1), v] = .ok .next [some (.sh x0), some (.sh x1), v'] := by
 intro l
 induction l with
 | nil => intro v; exact ⟨v, rfl⟩
 | cons i l ih =>
  intro v
  have e1 := D7 K i
  have e2 := CT K i
  obtain ⟨v', h⟩ := ih (some (.sh (.int i)))
  refine ⟨v', ?_⟩
  show XF _ _ (D.int i :: iL l) _ = _
  repeat' (first|(with_reducible first|assumption|exact QO|exact YX|exact QK|exact QA|apply Qs|exact QQ|exact Qv|exact XU|apply QM|apply Qz|apply Xl|apply Q8|apply X0|apply X6|apply Qw|apply Q6|apply IW|apply I0|apply I2|apply I8|exact I9|apply Le|apply Lq|apply Lu|apply QP|apply Xa|apply Lz)|exact QZ|decide)
theorem BQ (K : Frag) {P : List Pr} {x0 : D} : ∀ (l : List (List Int)) (v w : Option T), (∀ h ∈ l, h.length ≤ 1000) → ∃ v' w', XF (QG 1) (Qj (sIf (eOr (ZH (Q5 (Qc (QX (QV K) (Qb (eOp 1) (Qb (Qc (Qe (.glob (.type "tuple")))) Qi)))))) (eOr (QD neI (Qc (QX Y2 (Qb (eOp 1) Qi))) (Qc (Qe (.int 3)))) (eOr (ZH (Q5 (Qc (QX (QV K) (Qb (Qc (Qr QY (eOp 1) (Qc (Qe (.int 0))))) (Qb (Qc (Qe (.glob (.type "tuple")))) Qi)))))) Xm))) (Qj (Zq (Qe (.bool false))) Qn) Qn) (Qj (ZI (Q4 (Qr Xz (Qc (Qr QY (eOp 1) (Qc (Qe (.int 0))))) (Qc (Zo (eOp 1) (YQ (Qc (Qe (.int 1)))) XY)))) (QG 2) (Qj (sIf (eOr (ZH (Q5 (Qc (QX (QV K) (Qb (eOp 2) (Qb (Qc (Qe (.glob (.type "int")))) Qi)))))) (eOr (Q5 (Qc (QX (QV K) (Qb (eOp 2) (Qb (Qc (Qe (.glob (.type "bool")))) Qi))))) Xm)) (Qj (Zq (Qe (.bool false))) Qn) Qn) Qn)) Qn)) (l.map (ZW P)) [some (.sh x0), v, w] = .ok .next [some (.sh x0), v', w'] := by
 intro l
 induction l with
 | nil => intro v w _; exact ⟨v, w, rfl⟩
 | cons h l ih =>
  intro v w hl
  have hh := hl h (.head _)
  generalize hi : ((Yt P h).getD (0, 0)).1 = i
  generalize hj : ((Yt P h).getD (0, 0)).2 = j
  have er : ZW P h = .tup [.tup (iL h), .int i, .int j] := by unfold ZW; rw [hi, hj]
  have e1 : QV K [.tup [.tup (iL h), .int i, .int j], .glob (.type "tuple")] = some (.sh (.bool true)) := JZ K _ rfl
  have e2 : QV K [.tup (iL h), .glob (.type "tuple")] = some (.sh (.bool true)) := JZ K _ rfl
  have e3 : Y2 [.tup [.tup (iL h), .int i, .int j]] = some (.sh (.int 3)) := rfl
  have e4 := Ga (3 : Int)
  have e5 : QY (.tup [.tup (iL h), .int i, .int j]) (.int 0) = some (.sh (.tup (iL h))) := rfl
  have e6 : Uk (.tup [.tup (iL h), .int i, .int j]) (some 1) none = some (.sh (.tup [.int i, .int j])) := rfl
  have e7 : Xz (.tup (iL h)) (.tup [.int i, .int j]) = some (.sh (.tup (iL (h ++ [(i : Int), (j : Int)])))) := by
   have := HJ (xs := iL h) (ys := [D.int (i : Int), D.int (j : Int)]) (by rw [QF]; simp; exact omB hh)
   rw [this]
   unfold iL; rw [List.map_append]; rfl
  have e8 : Zb (.tup (iL (h ++ [(i : Int), (j : Int)]))) = some (iL (h ++ [(i : Int), (j : Int)])) := rfl
  obtain ⟨w₁, q₁⟩ := Ce K (x0 := x0) (x1 := .tup [.tup (iL h), .int i, .int j]) (h ++ [(i : Int), (j : Int)]) w
  obtain ⟨v', w', q⟩ := ih (some (.sh (.tup [.tup (iL h), .int i, .int j]))) w₁ (fun x hx => hl x (.tail _ hx))
  refine ⟨v', w', ?_⟩
  rw [List.map_cons, er]
  repeat' (first|(with_reducible first|assumption|exact QO|exact Yy|exact B1|exact QK|exact QA|apply Qs|exact Zc|exact QQ|exact Ye|exact Qv|exact XU|apply Qm|apply QM|apply QJ|apply ZS|apply XO|apply QW|apply Q9|apply Qz|apply Xl|apply Q8|apply X0|apply X6|apply JM|apply YV|apply QR|apply Qw|apply Q6|apply Xx|apply IW|apply IZ|apply IY|apply I0|apply I2|apply I3|apply I8|apply Lf|apply Lg|apply Ln|apply Ly|exact I9|apply Le|apply Lq|apply Lu|apply QP|apply Xa|apply Lz)|exact QZ|decide)
theorem K2 (K : Frag) {P : List Pr} (l : List (List Int)) (hl : ∀ h ∈ l, h.length ≤ 1000) : Yo K [.list (l.map (ZW P))] = .ok (.sh (.bool true)) := by
 obtain ⟨v', w', q⟩ := BQ K (P := P) (x0 := .list (l.map (ZW P))) l none none hl
 have e : Zb (.list (l.map (ZW P))) = some (l.map (ZW P)) := rfl
 unfold Yo Um
 refine' XB [some (.sh (.list (l.map (ZW P)))), none, none] rfl rfl ?_ XE
 repeat' (first|(with_reducible first|assumption|exact QO|exact X7|apply QR|apply Qw|apply XC|apply Xx|apply Ln|apply Lv|apply Ly|apply Lq|exact Lr)|exact Xh rfl|decide)
theorem ET : ∀ a : List Int, Xv (iL a) = true
 | [] => by unfold iL; rw [List.map_nil, Xv]
 | x :: a => by
  show Xv (.int x :: iL a) = true
  rw [Xv, ET a, XS]
  ·rfl
  all_goals (intros; simp_all)
theorem F6 (a : List Int) : XS (.tup (iL a)) = true := by rw [XS]; exact ET a
theorem Fi {ks : List (List Int)} {ds : List D} {h : List Int} {v : D} {j : Nat} (e : QB h ks = some j) : VD h ks = ks ∧ VK h v ks ds = ds.set j v := by
 constructor
 ·conv => lhs; whnf; rw [e]
 ·conv => lhs; whnf; rw [e]
theorem Cg (ks : List (List Int)) (h : List Int) : (O5 ks h).length ≤ ks.length + 1 := by
 unfold O5
 by_cases hh : h ∈ ks
 ·rw [if_pos hh]; exact Nat.le_succ _
 ·rw [if_neg hh, List.length_append]; exact Nat.le_refl _
theorem HU : ∀ (P : List Pr) (ks : List (List Int)), (kf ks P).length ≤ ks.length + P.length := by
 intro P
 induction P with
 | nil => intro ks; exact Nat.le_refl _
 | cons x P ih =>
  intro ks
  rw [WK, List.length_cons]
  have h1 := ih (O5 ks x.1)
  have h2 := Cg ks x.1
  lia
theorem Du (K : Frag) {n i : Nat} {chs : List (List Nat)} {a : List Int} {x0 x1 x2 x4 x5 x12 x13 x14 : Option T} (hc : Chs n chs) (hi : (Qu (rng n) chs)[i]? = some a) (ra : Row n a) (hR : ∀ b ∈ Qu (rng n) chs, Row n b) : ∀ (l : List (List Int)) (q : Nat) (ks : List (List Int)) (ds : List D) (v10 v11 : Option T), (Qu (rng n) chs).drop q = l → ks.length + l.length ≤ 1000 → ∃ ds' v10' v11',
  XF (QG 10) (Qj (Qx 11 (Qy (Za K) (Qb (Qc (Qr QY (eOp 7) (eOp 9))) (Qb (eOp 3) (Qb (eOp 10) Qi))))) (Qj (sIf (eOr (QD neI (eOp 11) (eOp 6)) (eOr (QD ltI (eOp 9) (eOp 10)) Xm)) (Qj (Uf 8 (eOp 11) (Qe (.bool true))) Qn) Qn) Qn)) (nL (List.range' q l.length)) [x0, x1, x2, some (.sh (.list (chD chs))), x4, x5, some (.sh (.tup (iL (rng n)))), some (.ow true (.list (Ql (Qu (rng n) chs)))), some (.ow true (.dict ks ds)), some (.sh (.int i)), v10, v11, x12, x13, x14] = .ok .next [x0, x1, x2, some (.sh (.list (chD chs))), x4, x5, some (.sh (.tup (iL (rng n)))), some (.ow true (.list (Ql (Qu (rng n) chs)))), some (.ow true (.dict (kf ks (prJ n i a q l)) ds')), some (.sh (.int i)), v10', v11', x12, x13, x14] := by
 intro l
 induction l with
 | nil => intro q ks ds v10 v11 _ _; exact ⟨ds, v10, v11, rfl⟩
 | cons b l ih =>
  intro q ks ds v10 v11 hd hl
  rw [List.length_cons] at hl
  obtain ⟨hb, hr⟩ := UI hd
  have rb := hR b (List.mem_of_getElem? hb)
  have e1 := Oj hi (by rw [YG]; have := hc.len; exact Nat.lt_of_le_of_lt this (by decide))
  have e2 := W6 K hc ra.len q
  rw [Gn hc.all ra rb hb] at e2
  show ∃ ds' v10' v11', XF _ _ (D.int (q : Nat) :: nL (List.range' (q + 1) l.length)) _ = _
  rw [prJ]
  generalize YA n a b = h at e2 ⊢
  have hrow := JD h
  have hlf := F6 h
  have hks : ks.length ≤ 1000000 := by exact omP hl
  have t2 := Bn h (rng n)
  by_cases hz : h ≠ rng n ∨ i < q
  ·rw [if_pos hz, WK]
   have hs : ∃ ds₁, Uf 8 (eOp 11) (Qe (.bool true)) [x0, x1, x2, some (.sh (.list (chD chs))), x4, x5, some (.sh (.tup (iL (rng n)))), some (.ow true (.list (Ql (Qu (rng n) chs)))), some (.ow true (.dict ks ds)), some (.sh (.int i)), some (.sh (.int q)), some (.sh (.tup (iL h))), x12, x13, x14] = .ok .next [x0, x1, x2, some (.sh (.list (chD chs))), x4, x5, some (.sh (.tup (iL (rng n)))), some (.ow true (.list (Ql (Qu (rng n) chs)))), some (.ow true (.dict (O5 ks h) ds₁)), some (.sh (.int i)), some (.sh (.int q)), some (.sh (.tup (iL h))), x12, x13, x14] := by
    cases hk : QB h ks with
    | some j =>
     obtain ⟨d1, d2⟩ := Fi (ds := ds) (v := .bool true) hk
     exact ⟨ds.set j (.bool true), Yi (t := .sh (.bool true)) (d := .bool true) (ρ₁ := [x0, x1, x2, some (.sh (.list (chD chs))), x4, x5, some (.sh (.tup (iL (rng n)))), some (.ow true (.list (Ql (Qu (rng n) chs)))), some (.ow true (.dict ks ds)), some (.sh (.int i)), some (.sh (.int q)), some (.sh (.tup (iL h))), x12, x13, x14]) rfl rfl (Zk rfl hks) rfl rfl (Zk rfl hks) hrow (by rw [d1, d2, Cz hk]; rfl)⟩
    | none =>
     obtain ⟨d1, d2⟩ := Cw (ds := ds) (v := .bool true) hk
     exact ⟨ds ++ [.bool true], Yi (t := .sh (.bool true)) (d := .bool true) (ρ₁ := [x0, x1, x2, some (.sh (.list (chD chs))), x4, x5, some (.sh (.tup (iL (rng n)))), some (.ow true (.list (Ql (Qu (rng n) chs)))), some (.ow true (.dict ks ds)), some (.sh (.int i)), some (.sh (.int q)), some (.sh (.tup (iL h))), x12, x13, x14]) rfl rfl (Zk rfl hks) rfl rfl (Zk rfl hks) hrow (by rw [d1, d2, Cq hk]; rfl)⟩
   obtain ⟨ds₁, hs⟩ := hs
   obtain ⟨ds', v10', v11', q3⟩ := ih (q + 1) (O5 ks h) ds₁ (some (.sh (.int q))) (some (.sh (.tup (iL h)))) hr (by have := Cg ks h; lia)
   refine ⟨ds', v10', v11', ?_⟩
   by_cases hh : h = rng n
   ·have hiq : i < q := hz.resolve_left fun z => z hh
    rw [Y6.mpr hh] at t2
    have t2 : neI (.tup (iL h)) (.tup (iL (rng n))) = some (.sh (.bool false)) := t2
    have t3 := VE (a := (i : Int)) (b := (q : Int)) (by exact Int.ofNat_lt.mpr hiq)
    repeat' (first|(with_reducible first|assumption|exact QO|exact Fe|exact Fy|exact QK|exact QA|apply Qs|exact QQ|exact Qv|apply Qm|apply QM|apply QJ|apply Ze|apply Xs|apply Q9|apply Qz|apply QE|apply X6|apply Qw|apply Q6|apply Xf|apply Zk|apply Yi|apply IW|apply IY|apply I1|apply I2|apply I3|apply Lf|apply Lx|exact Ld|apply Le|apply Lq|apply Ls|apply Lu|apply QP|apply Xa|apply Lz)|exact Q2 rfl|exact QZ|decide)
   ·rw [W8.mpr hh] at t2
    have t2 : neI (.tup (iL h)) (.tup (iL (rng n))) = some (.sh (.bool true)) := t2
    repeat' (first|(with_reducible first|assumption|exact QO|exact Fe|exact Fy|exact QK|exact QA|apply Qs|exact QQ|exact Qv|apply Qm|apply QM|apply QJ|apply Ze|apply Xs|apply Q9|apply Qz|apply QE|apply X6|apply Qw|apply Q6|apply Xf|apply Zk|apply Yi|apply IW|apply IY|apply I1|apply I2|apply I3|apply Lf|apply Lx|exact Ld|apply Le|apply Lq|apply Ls|apply Lu|apply QP|apply Xa|apply Lz)|exact Q2 rfl|exact QZ|decide)
  ·rw [if_neg hz]
   obtain ⟨hh, hiq⟩ := not_or.mp hz
   rw [Y6.mpr (Decidable.of_not_not hh)] at t2
   have t2 : neI (.tup (iL h)) (.tup (iL (rng n))) = some (.sh (.bool false)) := t2
   have t3 := VH (a := (i : Int)) (b := (q : Int)) (by (exact_mod_cast hiq))
   obtain ⟨ds', v10', v11', q3⟩ := ih (q + 1) ks ds (some (.sh (.int q))) (some (.sh (.tup (iL h)))) hr (by exact omL hl)
   refine ⟨ds', v10', v11', ?_⟩
   repeat' (first|(with_reducible first|assumption|exact QO|exact Fe|exact Fy|exact QK|exact QA|apply Qs|exact QQ|exact Qv|apply Qm|apply QM|apply QJ|apply Ze|apply Xs|apply Q9|apply Qz|apply QE|apply X6|apply Qw|apply Q6|apply Xf|apply Zk|apply Yi|apply IW|apply IY|apply I1|apply I2|apply I3|apply Lf|apply Lx|exact Ld|apply Le|apply Lq|apply Ls|apply Lu|apply QP|apply Xa|apply Lz)|exact Q2 rfl|exact QZ|decide)
theorem Db (K : Frag) {n : Nat} {chs : List (List Nat)} {x0 x1 x2 x4 x5 x12 x13 x14 : Option T} (hc : Chs n chs) (hR : ∀ b ∈ Qu (rng n) chs, Row n b) : ∀ (l : List (List Int)) (i : Nat) (ks : List (List Int)) (ds : List D) (v9 v10 v11 : Option T), (Qu (rng n) chs).drop i = l → ks.length + (l.length + 1) * (Qu (rng n) chs).length ≤ 1000 → ∃ ds' v9' v10' v11',
  XF (QG 9) (Qj (ZI (Q4 (QX XT (Qb (Qc (QX Y2 (Qb (eOp 7) Qi))) Qi))) (QG 10) (Qj (Qx 11 (Qy (Za K) (Qb (Qc (Qr QY (eOp 7) (eOp 9))) (Qb (eOp 3) (Qb (eOp 10) Qi))))) (Qj (sIf (eOr (QD neI (eOp 11) (eOp 6)) (eOr (QD ltI (eOp 9) (eOp 10)) Xm)) (Qj (Uf 8 (eOp 11) (Qe (.bool true))) Qn) Qn) Qn))) Qn) (nL (List.range' i l.length)) [x0, x1, x2, some (.sh (.list (chD chs))), x4, x5, some (.sh (.tup (iL (rng n)))), some (.ow true (.list (Ql (Qu (rng n) chs)))), some (.ow true (.dict ks ds)), v9, v10, v11, x12, x13, x14] = .ok .next [x0, x1, x2, some (.sh (.list (chD chs))), x4, x5, some (.sh (.tup (iL (rng n)))), some (.ow true (.list (Ql (Qu (rng n) chs)))), some (.ow true (.dict (kf ks (prI n (Qu (rng n) chs) i l)) ds')), v9', v10', v11', x12, x13, x14] := by
 intro l
 induction l with
 | nil => intro i ks ds v9 v10 v11 _ _; exact ⟨ds, v9, v10, v11, rfl⟩
 | cons a l ih =>
  intro i ks ds v9 v10 v11 hd hl
  rw [List.length_cons, Nat.add_mul, Nat.one_mul] at hl
  obtain ⟨ha, hr⟩ := UI hd
  have ra := hR a (List.mem_of_getElem? ha)
  have hRl : (Qu (rng n) chs).length ≤ 1000 := by omega
  have e1 := Z2 (ds := Ql (Qu (rng n) chs)) (by rw [XG]; exact omB hRl)
  rw [XG] at e1
  have e2 : XT [.int ((Qu (rng n) chs).length : Nat)] = some (.sh (.range 0 ((Qu (rng n) chs).length : Nat) 1)) := rfl
  have e3 := WD hRl
  obtain ⟨ds₁, w10, w11, q⟩ := Du K (x0 := x0) (x1 := x1) (x2 := x2) (x4 := x4) (x5 := x5) (x12 := x12) (x13 := x13) (x14 := x14) hc ha ra hR (Qu (rng n) chs) 0 ks ds v10 v11 rfl (by omega)
  have hk := HU (prJ n i a 0 (Qu (rng n) chs)) ks
  have hj := Br n i a (Qu (rng n) chs) 0
  obtain ⟨ds₂, w9, z10, z11, q₂⟩ := ih (i + 1) _ ds₁ (some (.sh (.int i))) w10 w11 hr (Nat.le_trans (Nat.add_le_add_right (Nat.le_trans hk (Nat.add_le_add_left hj _)) _) (by rw [Nat.add_assoc, Nat.add_comm (Qu (rng n) chs).length]; exact hl))
  refine ⟨ds₂, w9, z10, z11, ?_⟩
  rw [prI, Gf]
  show XF _ _ (D.int (i : Nat) :: nL (List.range' (i + 1) l.length)) _ = _
  repeat' (first|(with_reducible first|assumption|exact QO|exact IT|exact QK|exact QA|apply Qs|exact Xo|exact Qv|apply Qm|apply QJ|apply Qz|apply Xl|apply QR|apply Qw|apply Xx|apply IW|apply I0|apply I2|apply I3|apply Ln|apply Ly|apply Lq|apply QP|apply Xa|apply Lz)|exact QZ|decide)
noncomputable def tp (a : List Int) : PyData := .tuple (a.map .int)
theorem DU (a : List Int) : Wy (.tup (iL a)) = some (tp a) := DY (Ul a)
theorem Wv : ∀ l : List (List Int), Ys (Ql l) = some (l.map tp)
 | [] => rfl
 | a :: l => by
  show Ys (D.tup (iL a) :: Ql l) = _
  exact JS (DU a) (Wv l)
theorem F9 (a b : List Int) : PyData.eqv (tp a) (tp b) = decide (a = b) := UF a b
theorem Vh (a : List Int) : SeqAt.shaped (tp a) = true := Wu a
theorem Kj : ∀ l : List (List Int), PyData.canLayAll0 (l.map tp) = true
 | [] => by simp [PyData.canLayAll0]
 | a :: l => by
  have := SeqAt.canLay_of_shaped (Vh a)
  simp [PyData.canLayAll0, this, Kj l]
theorem KZ : ∀ l : List (List Int), PyData.depthAll (l.map tp) ≤ 2
 | [] => by simp [PyData.depthAll]
 | a :: l => by
  have h1 := KZ l
  have h2 := J0 a
  simp [PyData.depthAll, PyData.depth, tp]; lia
theorem Kt (l : List (List Int)) : SeqAt.shaped (.list (l.map tp)) = true := by
 have := KZ l
 unfold SeqAt.shaped
 simp [PyData.canLay0, Kj, PyData.depth]; exact omB this
theorem Ku : ∀ l : List (List Int), PyData.eqvAll (l.map tp) (l.map tp) = true
 | [] => by simp [PyData.eqvAll]
 | a :: l => by
  show (PyData.eqv (tp a) (tp a) && PyData.eqvAll (l.map tp) (l.map tp)) = true
  rw [Ku l, F9, decide_eq_true rfl]; rfl
theorem F7 (l : List (List Int)) : eqD (.list (Ql l)) (.list (Ql l)) = some true := Of (Kf (Wv l)) (Kf (Wv l)) (Kt l) (Kt l) (Ku l)
noncomputable def tpT (P : List Pr) (h : List Int) : PyData := .tuple [tp h, .int ((Yt P h).getD (0, 0)).1, .int ((Yt P h).getD (0, 0)).2]
theorem Er (P : List Pr) (h : List Int) : Wy (ZW P h) = some (tpT P h) := DY (JS (DU h) rfl)
theorem Kg (P : List Pr) : ∀ l : List (List Int), Ys (l.map (ZW P)) = some (l.map (tpT P))
 | [] => rfl
 | h :: l => JS (Er P h) (Kg P l)
theorem G9 (P : List Pr) (h : List Int) : PyData.eqv (tpT P h) (tpT P h) = true := by
 show (PyData.eqv (tp h) (tp h) && _) = true
 rw [F9, decide_eq_true rfl]
 simp [PyData.eqvAll, PyData.eqv]
theorem Ov (P : List Pr) : ∀ l : List (List Int), PyData.eqvAll (l.map (tpT P)) (l.map (tpT P)) = true
 | [] => by simp [PyData.eqvAll]
 | h :: l => by
  show (PyData.eqv (tpT P h) (tpT P h) && PyData.eqvAll (l.map (tpT P)) (l.map (tpT P))) = true
  rw [Ov P l, G9]; rfl
theorem KV (P : List Pr) : ∀ l : List (List Int), PyData.canLayAll0 (l.map (tpT P)) = true
 | [] => by simp [PyData.canLayAll0]
 | h :: l => by
  have h1 := SeqAt.canLay_of_shaped (Vh h)
  have h2 := KV P l
  simp [PyData.canLayAll0, PyData.canLay0, tpT, h2] at h1 ⊢
  exact h1
theorem Vw (P : List Pr) : ∀ l : List (List Int), PyData.depthAll (l.map (tpT P)) ≤ 3
 | [] => by simp [PyData.depthAll]
 | h :: l => by
  have h1 := Vw P l
  have h2 := J0 h
  simp [PyData.depthAll, PyData.depth, tpT, tp]; lia
theorem Od (P : List Pr) (l : List (List Int)) : SeqAt.shaped (.list (l.map (tpT P))) = true := by
 have := Vw P l
 unfold SeqAt.shaped
 simp [PyData.canLay0, KV, PyData.depth]; exact omB this
theorem GC (P : List Pr) (l : List (List Int)) : eqD (.list (l.map (ZW P))) (.list (l.map (ZW P))) = some true := Of (Kf (Kg P l)) (Kf (Kg P l)) (Od P l) (Od P l) (Ov P l)
theorem Cd (K : Frag) {n m : Nat} {ns : List Int} (hl : ns.length ≤ 63) (h3 : 3 ≤ n) (h12 : n ≤ 12) (hm : m ≤ 30) : ∃ chs, Chs n chs ∧ chs.length = m ∧ JA (QG 1) Uj (Qy (XK K) (Qb (Qc (Qy (Zm K) (Qb (Qc (Qy (Xc K) (Qb (eOp 3) (Qb (Qc (Qr Xz (Qc (Qe (.int 2))) (Qc (Qr Z3 (eOp 1) (Qc (Qe (.int 6))))))) Qi)))) (Qb (Qc (Qr UT (eOp 1) (Qc (Qe (.int 6))))) Qi)))) (Qb (eOp 2) Qi))) [none, none, some (.sh (.int n)), some (.sh (.list (iL ns)))] (iL (rng m)) [] = some (chD chs) := by
 refine ⟨(List.range m).map fun j => D6 K (mix (ns.getD (2 + j % 6) 0) ((j / 6 : Nat) : Int)) n, ⟨h3, h12, by simp; omega, fun c hc => ?_⟩, by simp, ?_⟩
 ·obtain ⟨j, _, rfl⟩ := List.mem_map.mp hc
  exact (DH K _ h3 h12).2
 ·have := UP (b := QG 1) (f := (Qy (XK K) (Qb (Qc (Qy (Zm K) (Qb (Qc (Qy (Xc K) (Qb (eOp 3) (Qb (Qc (Qr Xz (Qc (Qe (.int 2))) (Qc (Qr Z3 (eOp 1) (Qc (Qe (.int 6))))))) Qi)))) (Qb (Qc (Qr UT (eOp 1) (Qc (Qe (.int 6))))) Qi)))) (Qb (eOp 2) Qi)))) (ρ₀ := [none, none, some (.sh (.int n)), some (.sh (.list (iL ns)))]) (g := fun d => match d with | .int k => .tup (nD (D6 K (mix (ns.getD (2 + k.toNat % 6) 0) ((k.toNat / 6 : Nat) : Int)) n)) | _ => .none) (iL (rng m)) (fun d hd => ?_) (by rw [QF, Yb]; exact omB hm)
  ·rw [this]
   unfold iL rng chD
   rw [List.map_map, List.map_map, List.map_map]
   congr 1
  ·obtain ⟨k, hk, rfl⟩ := List.mem_map.mp hd
   have hk' := KQ.mp hk
   obtain ⟨j, rfl⟩ := Int.eq_ofNat_of_zero_le hk'.1
   have e1 : Z3 (.int (j : Int)) (.int 6) = some (.sh (.int ((j % 6 : Nat) : Int))) := by
    rw [Xn (by decide)]; congr 3; rw [Int.fmod_eq_emod_of_nonneg _ (by decide)]; rfl
   have e2 : Xz (.int 2) (.int ((j % 6 : Nat) : Int)) = some (.sh (.int ((2 + j % 6 : Nat) : Int))) := rfl
   have e3 := Js K ns (2 + j % 6) hl
   have e4 : UT (.int (j : Int)) (.int 6) = some (.sh (.int ((j / 6 : Nat) : Int))) := by
    rw [Zn (by decide)]; congr 3; rw [Int.fdiv_eq_ediv_of_nonneg _ (by decide)]; rfl
   have e5 := J7 K (ns.getD (2 + j % 6) 0) ((j / 6 : Nat) : Int) (Wx (by omega))
   have e6 := (DH K (mix (ns.getD (2 + j % 6) 0) ((j / 6 : Nat) : Int)) h3 h12).1
   refine ⟨[none, some (.sh (.int j)), some (.sh (.int n)), some (.sh (.list (iL ns)))], .sh (.tup (nD (D6 K (mix (ns.getD (2 + j % 6) 0) ((j / 6 : Nat) : Int)) n))), [none, some (.sh (.int j)), some (.sh (.int n)), some (.sh (.list (iL ns)))], rfl, ?_, rfl⟩
   repeat' (first|(with_reducible first|assumption|exact QO|exact Yy|exact QK|exact QA|apply Qs|exact Xo|apply Qm|apply QM|apply QJ|apply Ve|apply ZS|apply Qz|apply QE|apply Xn|apply Zn|apply IW|apply IY|apply I1|apply I2|apply I3)|exact Q2 rfl|exact QZ|decide)
theorem Chs.more {n : Nat} {chs : List (List Nat)} (hc : Chs n chs) (k : Nat) (hl : chs.length + k ≤ 30) : Chs n (chs ++ chs.take k) := ⟨hc.h3, hc.h12, by rw [List.length_append, List.length_take]; lia, fun c h => (List.mem_append.mp h).elim (hc.all c) fun h => hc.all c (List.mem_of_mem_take h)⟩
theorem FQ {i : Nat} {t : AEnv → Res Bool} {ρ ρ' : AEnv} {ds : List D} {b : Bool} (h : ρ[i]? = some (some (.ow true (.list ds)))) (h2 : t (wk (ρ.set i (some (.sh (.list ds))))) = .ok b ρ') : Uy i t ρ = .ok b ρ := by
 conv => lhs; whnf; rw [h]; whnf; rw [h2]
theorem FM {i : Nat} {b : D → AEnv → Option AEnv} {t : AEnv → Res Bool} {ρ ρ' : AEnv} {m : Bool} {ds : List D} (h : ρ[i]? = some (some (.ow m (.list ds)))) (h2 : W1 b t ds ρ = some ρ') : U2 i b t ρ = .ok .next ρ' := by
 conv => lhs; whnf; rw [h]; whnf; rw [h2]
theorem Dk (K : Frag) {P : List Pr} (l : List (List Int)) (hl : l.length ≤ 1000) : JA (QG 1) Uj (Qr QY (eOp 1) (Qc (Qe (.int 0)))) [none, none] (l.map (ZW P)) [] = some (Ql l) := by
 have q := UP (b := QG 1) (f := Qr QY (eOp 1) (Qc (Qe (.int 0)))) (ρ₀ := [none, none]) (g := fun d => match d with | .tup (x :: _) => x | _ => .none) (l.map (ZW P)) (fun d hd => ?_) (by rw [List.length_map]; exact omB hl)
 ·rw [q]
  unfold Ql
  rw [List.map_map]; rfl
 ·obtain ⟨h, _, rfl⟩ := List.mem_map.mp hd
  have e : QY (ZW P h) (.int 0) = some (.sh (.tup (iL h))) := rfl
  refine ⟨[none, some (.sh (ZW P h))], .sh (.tup (iL h)), [none, some (.sh (ZW P h))], rfl, ?_, rfl⟩
  repeat' (first|(with_reducible first|assumption|exact Yy|apply ZS)|exact QZ|decide)
theorem D3 {b : D → AEnv → Option AEnv} {t : AEnv → Res Bool} {d : D} {ds : List D} {ρ ρ₁ ρ₂ ρ' : AEnv} (h1 : b d ρ = some ρ₁) (h2 : t (wk ρ₁) = .ok false ρ₂) (h3 : W1 b t ds ρ₁ = some ρ') : W1 b t (d :: ds) ρ = some ρ' := by
 conv => lhs; whnf; rw [h1]; whnf; rw [h2]
 exact h3
theorem VA (K : Frag) {n : Nat} {chs : List (List Nat)} (hc : Chs n chs) (hl : chs.length ≤ 12) {h : List Int} (hh : h.length = n) : Xy K [.tup (iL h), .list (chD chs)] = .ok (.ow true (.list (Ql (Qu h chs)))) ∧ Xe K [.list (Ql (Qu (rng n) chs)), .list (Ql (Qu h chs)), .bool (eqB h (rng n))] = .ok (.sh (BR (Yt (prs n chs) h))) := by
 have hR := JE hc.all (WW hc.h3 hc.h12)
 refine ⟨Wc K hh hc, ?_⟩
 have e := K4 K (A := Qu (rng n) chs) (B := Qu h chs) (eqB h (rng n)) (by rw [YG]; exact Nat.lt_of_le_of_lt hl (by decide)) (by rw [YG]; exact Nat.lt_of_le_of_lt hl (by decide))
 rw [e]
 unfold prs
 rw [GS hh hR _ 0 hR, ← VF hh hc.all]
 rfl
theorem Ch : ∀ l : List (List Int), Xv (Ql l) = true
 | [] => rfl
 | a :: l => by
  show Xv (D.tup (iL a) :: Ql l) = true
  rw [Xv, F6, Ch l]; rfl
theorem GP (x : Option (Nat × Nat)) : XS (BR x) = true := by cases x <;> rfl
theorem C6 (K : Frag) {n : Nat} {chs : List (List Nat)} {x0 x1 x2 x4 x8 v11 v13 v14 : Option T} {tb : List D} (hc : Chs n chs) (hl : chs.length ≤ 12) : ∀ (l : List (List Int)) (v9 v10 v12 : Option T), (∀ h ∈ l, h.length = n ∧ (Yt (prs n chs) h).isSome = true) → ∃ v9' v10' v12',
  W1 (Xg [12, 9, 10]) (QD neI (Qc (YL (QH (Q3 9) (QH (Q3 10) Zg)))) (Qc (Qy (Xe K) (Qb (eOp 7) (Qb (Qc (Qy (Xy K) (Qb (eOp 12) (Qb (eOp 3) Qi)))) (Qb (Qc (Qr eqI (eOp 12) (eOp 6))) Qi)))))) (l.map (ZW (prs n chs))) [x0, x1, x2, some (.sh (.list (chD chs))), x4, some (.ow true (.list tb)), some (.sh (.tup (iL (rng n)))), some (.ow true (.list (Ql (Qu (rng n) chs)))), x8, v9, v10, v11, v12, v13, v14] = some [x0, x1, x2, some (.sh (.list (chD chs))), x4, some (.ow true (.list tb)), some (.sh (.tup (iL (rng n)))), some (.ow true (.list (Ql (Qu (rng n) chs)))), x8, v9', v10', v11, v12', v13, v14] := by
 intro l
 induction l with
 | nil => intro v9 v10 v12 _; exact ⟨v9, v10, v12, rfl⟩
 | cons h l ih =>
  intro v9 v10 v12 hh
  obtain ⟨hn, hs⟩ := hh h (.head _)
  obtain ⟨⟨i, j⟩, hx⟩ := Option.isSome_iff_exists.mp hs
  obtain ⟨e1, e2⟩ := VA K hc hl hn
  rw [hx] at e2
  have e2 : Xe K [.list (Ql (Qu (rng n) chs)), .list (Ql (Qu h chs)), .bool (eqB h (rng n))] = .ok (.sh (.tup (iL [(i : Int), (j : Int)]))) := e2
  have e3 := VS h (rng n)
  have e4 : neI (.tup [.int (i : Int), .int (j : Int)]) (.tup (iL [(i : Int), (j : Int)])) = some (.sh (.bool false)) := Bc [(i : Int), (j : Int)]
  have hlf := F6 [(i : Int), (j : Int)]
  have hlr := Ch (Qu h chs)
  obtain ⟨v9', v10', v12', q⟩ := ih (some (.sh (.int i))) (some (.sh (.int j))) (some (.sh (.tup (iL h)))) fun x hx => hh x (.tail _ hx)
  refine ⟨v9', v10', v12', ?_⟩
  rw [List.map_cons, show ZW (prs n chs) h = .tup [.tup (iL h), .int (i : Int), .int (j : Int)] by unfold ZW; rw [hx]; rfl]
  have ht : ∃ ρ, (QD neI (Qc (YL (QH (Q3 9) (QH (Q3 10) Zg)))) (Qc (Qy (Xe K) (Qb (eOp 7) (Qb (Qc (Qy (Xy K) (Qb (eOp 12) (Qb (eOp 3) Qi)))) (Qb (Qc (Qr eqI (eOp 12) (eOp 6))) Qi)))))) [x0.map wkT, x1.map wkT, x2.map wkT, some (.sh (.list (chD chs))), x4.map wkT, some (.ow false (.list tb)), some (.sh (.tup (iL (rng n)))), some (.ow false (.list (Ql (Qu (rng n) chs)))), x8.map wkT, some (.sh (.int i)), some (.sh (.int j)), v11.map wkT, some (.sh (.tup (iL h))), v13.map wkT, v14.map wkT] = .ok false ρ := by
   refine ⟨[x0.map wkT, x1.map wkT, x2.map wkT, some (.sh (.list (chD chs))), x4.map wkT, some (.ow false (.list tb)), some (.sh (.tup (iL (rng n)))), some (.ow false (.list (Ql (Qu (rng n) chs)))), x8.map wkT, some (.sh (.int i)), some (.sh (.int j)), v11.map wkT, some (.sh (.tup (iL h))), v13.map wkT, v14.map wkT], ?_⟩
   repeat' (first|(with_reducible first|assumption|exact QO|exact ZJ|exact QK|exact QA|apply Qs|exact U0|apply UZ|exact Xo|exact Zr|apply Qm|apply QM|apply QJ|apply Ze|apply QW|apply Q9|apply Qz|apply QE|apply XR|apply Jp|apply IW|apply IY|apply I1|apply I2|apply I3|apply I4|apply I5|apply I6|apply Lf|apply Lg)|exact Q2 rfl|apply Zf rfl QO|apply Zf rfl ZJ|exact Xh rfl|exact QZ|decide)
  obtain ⟨ρ, ht⟩ := ht
  exact D3 rfl ht q
theorem HT (x : Option (Nat × Nat)) : isI (BR x) .none = some (.sh (.bool x.isNone)) := by cases x <;> rfl
theorem Ii : eqI (.bool true) (.bool false) = some (.sh (.bool false)) := by kernel_rfl
theorem H5 : eqI (.bool false) (.bool true) = some (.sh (.bool false)) := by kernel_rfl
theorem E1 (K : Frag) {n : Nat} {chs : List (List Nat)} {x0 x1 x2 x4 x5 x9 x10 x11 x13 x14 : Option T} {ds dT : List D} (hc : Chs n chs) (hl : chs.length ≤ 12) (fd : FD (prs n chs) (tks n chs) dT) : ∀ (l : List (List Int)) (v12 : Option T), (∀ h ∈ l, h.length = n) → ∃ v12',
  XF (QG 12) (Qj (sIf (QD eqI (Qc (Qr isI (Qc (Qy (Xe K) (Qb (eOp 7) (Qb (Qc (Qy (Xy K) (Qb (eOp 12) (Qb (eOp 3) Qi)))) (Qb (Qc (Qr eqI (eOp 12) (eOp 6))) Qi))))) (Qc (Qe .none)))) (Qc (Ff false (eOp 12) 8))) (Qj (Zq (Qe (.bool false))) Qn) Qn) Qn) (Ql l) [x0, x1, x2, some (.sh (.list (chD chs))), x4, x5, some (.sh (.tup (iL (rng n)))), some (.ow true (.list (Ql (Qu (rng n) chs)))), some (.ow true (.dict (tks n chs) ds)), x9, x10, x11, v12, x13, x14] = .ok .next [x0, x1, x2, some (.sh (.list (chD chs))), x4, x5, some (.sh (.tup (iL (rng n)))), some (.ow true (.list (Ql (Qu (rng n) chs)))), some (.ow true (.dict (tks n chs) ds)), x9, x10, x11, v12', x13, x14] := by
 intro l
 induction l with
 | nil => intro v12 _; exact ⟨v12, rfl⟩
 | cons h l ih =>
  intro v12 hh
  have hn := hh h (.head _)
  obtain ⟨e1, e2⟩ := VA K hc hl hn
  have e3 := VS h (rng n)
  have hlf := GP (Yt (prs n chs) h)
  have hrow := JD h
  have e4 := HT (Yt (prs n chs) h)
  obtain ⟨v12', q⟩ := ih (some (.sh (.tup (iL h)))) fun x hx => hh x (.tail _ hx)
  refine ⟨v12', ?_⟩
  show XF _ _ (D.tup (iL h) :: Ql l) _ = _
  cases hk : QB h (tks n chs) with
  | some j =>
   obtain ⟨x, hx, _⟩ := fd.hit hk
   rw [hx] at e2 e4 hlf
   have e4 : isI (BR (some x)) .none = some (.sh (.bool false)) := e4
   have t1 : ((QB h (tks n chs)).isSome != false) = true := by rw [hk]; rfl
   have t2 := H5
   generalize BR (some x) = X at *
   repeat' (first|(with_reducible first|assumption|exact QO|exact ZJ|exact Hn|exact QK|exact QA|apply Qs|exact Zc|exact Xo|exact Qv|apply Qm|apply QM|apply QJ|apply Ze|apply XO|apply QW|apply Q9|apply Qz|apply QE|apply Qw|apply Q6|apply YR|apply DJ|apply IW|apply IZ|apply IY|apply I1|apply I2|apply I3|apply Lf|apply Lg|apply Lq|apply Lu|apply QP|apply Xa|apply Lz)|exact Q2 rfl|apply Zf rfl QO|apply Zf rfl ZJ|exact QZ|decide)
  | none =>
   rw [fd.miss hk] at e2 e4 hlf
   have e4 : isI (BR none) .none = some (.sh (.bool true)) := e4
   have t1 : ((QB h (tks n chs)).isSome != false) = false := by rw [hk]; rfl
   have t2 := Ii
   generalize BR none = X at *
   repeat' (first|(with_reducible first|assumption|exact QO|exact ZJ|exact Hn|exact QK|exact QA|apply Qs|exact Zc|exact Xo|exact Qv|apply Qm|apply QM|apply QJ|apply Ze|apply XO|apply QW|apply Q9|apply Qz|apply QE|apply Qw|apply Q6|apply YR|apply DJ|apply IW|apply IZ|apply IY|apply I1|apply I2|apply I3|apply Lf|apply Lg|apply Lq|apply Lu|apply QP|apply Xa|apply Lz)|exact Q2 rfl|apply Zf rfl QO|apply Zf rfl ZJ|exact QZ|decide)
theorem Hx (c : Int) : ∃ (n : Nat) (a b t r : Int), 3 ≤ n ∧ n ≤ 12 ∧ UT (.int c) (.int 2) = some (.sh (.int (c.fdiv 2))) ∧ Z3 (.int (c.fdiv 2)) (.int 2) = some (.sh (.int a)) ∧ Z3 (.int (c.fdiv 2)) (.int 10) = some (.sh (.int b)) ∧ Z3 (.int c) (.int 2) = some (.sh (.int t)) ∧ QY (.list [.int a, .int b]) (.int t) = some (.sh (.int r)) ∧ Xz (.int 3) (.int r) = some (.sh (.int n)) := by
 obtain ⟨a, ha, ha2⟩ := JG (c.fdiv 2) (n := 2) (by decide)
 obtain ⟨b, hb, hb2⟩ := JG (c.fdiv 2) (n := 10) (by decide)
 obtain ⟨t, ht, ht2⟩ := JG c (n := 2) (by decide)
 have g1 : UT (.int c) (.int 2) = some (.sh (.int (c.fdiv 2))) := Zn (by decide)
 have g2 : Z3 (.int (c.fdiv 2)) (.int 2) = some (.sh (.int a)) := by rw [Xn (by decide)]; rw [show (c.fdiv 2).fmod 2 = a from ha]
 have g3 : Z3 (.int (c.fdiv 2)) (.int 10) = some (.sh (.int b)) := by rw [Xn (by decide)]; rw [show (c.fdiv 2).fmod 10 = b from hb]
 have g4 : Z3 (.int c) (.int 2) = some (.sh (.int t)) := by rw [Xn (by decide)]; rw [show c.fmod 2 = t from ht]
 rcases (show t = 0 ∨ t = 1 by lia) with rfl | rfl
 ·exact ⟨3 + a, a, b, (0 : Nat), a, by exact Nat.le_add_right _ _, by omega, g1, g2, g3, g4, JH (by decide) (by decide) rfl, rfl⟩
 ·exact ⟨3 + b, a, b, (1 : Nat), b, by exact Nat.le_add_right _ _, by (have := hb2; simp +arith at this ⊢; exact this), g1, g2, g3, g4, JH (by decide) (by decide) rfl, rfl⟩
theorem FE : ∀ h ∈ HQ, h.length = 3 := by decide
theorem FH : ∀ h ∈ Hs, h.length = 4 := by decide
theorem HM {f : AEnv → Res T} {ρ ρ₁ : AEnv} {a : T} {d : D} (h1 : f ρ = .ok a ρ₁) (h2 : a.val = d) : KW f ρ = .ok (.sh d) ρ₁ := by
 subst h2; conv => lhs; whnf; rw [h1]
theorem HV {ρ ρ' : AEnv} {i : Nat} {ds : List D} (h1 : XD ρ i = some ds) (h2 : List.set ρ i (some (.ow true (.list []))) = ρ') : K9 i ρ = .ok (.sh .none) ρ' := by
 subst h2; conv => lhs; whnf; rw [h1]
theorem EV (K : Frag) {n : Nat} {chs : List (List Nat)} {x0 x2 x4 x5 x9 x10 x11 v12 x13 x14 : Option T} {ds dT : List D} (hc : Chs n chs) (hl : chs.length ≤ 12) (fd : FD (prs n chs) (tks n chs) dT) : ∃ v12',
  (sIf (QD ltI (eOp 1) (Qc (Qe (.int 5)))) (Qj (ZI (Q4 (Qy (YJ K) (Qb (eOp 1) Qi))) (QG 12) (Qj (sIf (QD eqI (Qc (Qr isI (Qc (Qy (Xe K) (Qb (eOp 7) (Qb (Qc (Qy (Xy K) (Qb (eOp 12) (Qb (eOp 3) Qi)))) (Qb (Qc (Qr eqI (eOp 12) (eOp 6))) Qi))))) (Qc (Qe .none)))) (Qc (Ff false (eOp 12) 8))) (Qj (Zq (Qe (.bool false))) Qn) Qn) Qn)) Qn) Qn) [x0, some (.sh (.int n)), x2, some (.sh (.list (chD chs))), x4, x5, some (.sh (.tup (iL (rng n)))), some (.ow true (.list (Ql (Qu (rng n) chs)))), some (.ow true (.dict (tks n chs) ds)), x9, x10, x11, v12, x13, x14] = .ok .next [x0, some (.sh (.int n)), x2, some (.sh (.list (chD chs))), x4, x5, some (.sh (.tup (iL (rng n)))), some (.ow true (.list (Ql (Qu (rng n) chs)))), some (.ow true (.dict (tks n chs) ds)), x9, x10, x11, v12', x13, x14] := by
 by_cases h5 : n < 5
 ·have t1 := VE (a := (n : Int)) (b := 5) (by exact Int.ofNat_lt.mpr h5)
  obtain ⟨L, hL, e1⟩ : ∃ L, (∀ h ∈ L, h.length = n) ∧ YJ K [.int n] = .ok (.sh (.list (Ql L))) := by
   have h3 := hc.h3
   rcases (show n = 3 ∨ n = 4 by lia) with rfl | rfl
   ·exact ⟨HQ, FE, Dc K⟩
   ·exact ⟨Hs, FH, Dp K⟩
  obtain ⟨v12', q⟩ := E1 K (x0 := x0) (x1 := some (.sh (.int n))) (x2 := x2) (x4 := x4) (x5 := x5) (x9 := x9) (x10 := x10) (x11 := x11) (x13 := x13) (x14 := x14) (ds := ds) hc hl fd L v12 hL
  have e2 : Zb (.list (Ql L)) = some (Ql L) := rfl
  refine ⟨v12', ?_⟩
  repeat' (first|(with_reducible first|assumption|exact QO|exact Yy|exact QA|apply Qs|exact Qv|apply Qm|apply B8|apply QE|apply QR|apply Qw|apply Q6|apply Xx|apply I1|apply Ln|apply Ly|apply Lq|apply Ls|apply Lu)|exact Q2 rfl|exact QZ|decide)
 ·have t1 := VH (a := (n : Int)) (b := 5) (by (exact_mod_cast h5))
  refine ⟨v12, ?_⟩
  repeat' (first|(with_reducible first|assumption|exact QO|exact Yy|exact QA|apply Qs|exact Qv|apply Qm|apply B8|apply QE|apply QR|apply Qw|apply Q6|apply Xx|apply I1|apply Ln|apply Ly|apply Lq|apply Ls|apply Lu)|exact Q2 rfl|exact QZ|decide)
theorem Dr (K : Frag) {n : Nat} {chs : List (List Nat)} {x0 x1 x2 x3 x4 x6 x7 x9 x10 x11 x12 x13 x14 : Option T} {ds : List D} (hc : Chs n chs) (h1000 : (tks n chs).length ≤ 1000) :
  (Uy 5 (QD neI (Qc (Z7 [none, none] (Q4 (Q3 5)) (QG 1) Uj (Qr QY (eOp 1) (Qc (Qe (.int 0)))))) (Qc (JL 8)))) [x0, x1, x2, x3, x4, some (.ow true (.list (ZG n chs))), x6, x7, some (.ow true (.dict (tks n chs) ds)), x9, x10, x11, x12, x13, x14] = .ok false [x0, x1, x2, x3, x4, some (.ow true (.list (ZG n chs))), x6, x7, some (.ow true (.dict (tks n chs) ds)), x9, x10, x11, x12, x13, x14] := by
 refine FQ (ρ' := [x0.map wkT, x1.map wkT, x2.map wkT, x3.map wkT, x4.map wkT, some (.sh (.list (ZG n chs))), x6.map wkT, x7.map wkT, some (.ow false (.dict (tks n chs) ds)), x9.map wkT, x10.map wkT, x11.map wkT, x12.map wkT, x13.map wkT, x14.map wkT]) rfl ?_
 show (QD neI (Qc (Z7 [none, none] (Q4 (Q3 5)) (QG 1) Uj (Qr QY (eOp 1) (Qc (Qe (.int 0)))))) (Qc (JL 8))) [x0.map wkT, x1.map wkT, x2.map wkT, x3.map wkT, x4.map wkT, some (.sh (.list (ZG n chs))), x6.map wkT, x7.map wkT, some (.ow false (.dict (tks n chs) ds)), x9.map wkT, x10.map wkT, x11.map wkT, x12.map wkT, x13.map wkT, x14.map wkT] = _
 have e1 := Dk K (P := prs n chs) (XA (tks n chs)) (by rw [J8]; exact h1000)
 have e1 : JA (QG 1) Uj (Qr QY (eOp 1) (Qc (Qe (.int 0)))) [none, none] (ZG n chs) [] = some (Ql (XA (tks n chs))) := e1
 have e2 : Zb (.list (ZG n chs)) = some (ZG n chs) := rfl
 have e3 : JL 8 [x0.map wkT, x1.map wkT, x2.map wkT, x3.map wkT, x4.map wkT, some (.sh (.list (ZG n chs))), x6.map wkT, x7.map wkT, some (.ow false (.dict (tks n chs) ds)), x9.map wkT, x10.map wkT, x11.map wkT, x12.map wkT, x13.map wkT, x14.map wkT] = .ok (.ow true (.list (Ql (XA (tks n chs))))) [x0.map wkT, x1.map wkT, x2.map wkT, x3.map wkT, x4.map wkT, some (.sh (.list (ZG n chs))), x6.map wkT, x7.map wkT, some (.ow false (.dict (tks n chs) ds)), x9.map wkT, x10.map wkT, x11.map wkT, x12.map wkT, x13.map wkT, x14.map wkT] := B4 (YR rfl) h1000 (F0 hc)
 have e4 : neI (.list (Ql (XA (tks n chs)))) (.list (Ql (XA (tks n chs)))) = some (.sh (.bool false)) := CL (F7 _)
 repeat' (first|(with_reducible first|assumption|exact QO|exact ZJ|exact QK|exact Uv|apply Y9|apply QW|apply Qz|apply QR|apply Yq|apply YR|apply IW|apply Lf|apply Lg|apply Ln)|exact Xh rfl|decide)
theorem law09_plain (K : Frag) (ns : List Int) (hl : ns.length ≤ 63) : BT K [.list (ns.map .int)] = .ok (.sh (.bool true)) := by
 show BT K [.list (iL ns)] = _
 have c0 : Xc K [.list (iL ns), .int 0] = .ok (.sh (.int (ns.getD 0 0))) := Js K ns 0 hl
 have c1 : Xc K [.list (iL ns), .int 1] = .ok (.sh (.int (ns.getD 1 0))) := Js K ns 1 hl
 obtain ⟨n, a, b, t, r, h3, h12, g1, g2, g3, g4, g5, g6⟩ := Hx (ns.getD 0 0)
 obtain ⟨m, hm1, hm2⟩ := JG (ns.getD 1 0) (n := 8) (by decide)
 obtain ⟨k, hk1, hk2⟩ := JG ((ns.getD 1 0).fdiv 8) (n := 5) (by decide)
 have y1 : Z3 (.int (ns.getD 1 0)) (.int 8) = some (.sh (.int m)) := by rw [Xn (by decide)]; rw [show (ns.getD 1 0).fmod 8 = m from hm1]
 have y2 : UT (.int (ns.getD 1 0)) (.int 8) = some (.sh (.int ((ns.getD 1 0).fdiv 8))) := Zn (by decide)
 have y3 : Z3 (.int ((ns.getD 1 0).fdiv 8)) (.int 5) = some (.sh (.int k)) := by rw [Xn (by decide)]; rw [show ((ns.getD 1 0).fdiv 8).fmod 5 = k from hk1]
 obtain ⟨cs, hcs, hlen, s2⟩ := Cd K (ns := ns) hl h3 h12 (m := m) (by exact omL hm2)
 have g7 : XT [.int (m : Int)] = some (.sh (.range 0 m 1)) := rfl
 have g8 := Vo m (by exact omL hm2)
 have y4 := Cc (l := cs) k (by omega)
 have y5 : Xz (.list (chD cs)) (.list (chD (cs.take k))) = some (.ow true (.list (chD (cs ++ cs.take k)))) := by
  rw [Bl (by rw [ZN, ZN, List.length_take]; omega)]; unfold chD; rw [List.map_append]
 have hc := hcs.more k (by omega)
 have hl12 : (cs ++ cs.take k).length ≤ 12 := by rw [List.length_append, List.length_take]; omega
 have s3 : (KW (Qr Xz (eOp 3) (Qc (Zo (eOp 3) XY (YQ (Qc (Qr Z3 (Qc (Qr UT (Qc (Qy (Xc K) (Qb (eOp 0) (Qb (Qc (Qe (.int 1))) Qi)))) (Qc (Qe (.int 8))))) (Qc (Qe (.int 5)))))))))) [some (.sh (.list (iL ns))), some (.sh (.int n)), some (.sh (.int m)), some (.ow true (.list (chD cs))), none, none, none, none, none, none, none, none, none, none, none] = .ok (.sh (.list (chD (cs ++ cs.take k)))) [some (.sh (.list (iL ns))), some (.sh (.int n)), some (.sh (.int m)), some (.ow true (.list (chD cs))), none, none, none, none, none, none, none, none, none, none, none] := by
  refine HM (a := .ow true (.list (chD (cs ++ cs.take k)))) ?_ rfl
  repeat' (first|(with_reducible first|assumption|exact QO|exact ZJ|exact B1|exact YX|exact Ui|exact OT|exact Fr|exact BS|exact Cb|exact Ct|exact DV|exact DI|exact QK|exact QA|apply Qs|exact Uv|apply Y9|apply UN|exact E8|apply ZL|exact U0|apply UZ|exact Zc|exact X7|exact Xo|exact Zr|exact QQ|exact Ye|exact Qv|exact XU|apply Qm|apply QM|apply QJ|apply Ve|apply Ze|apply XO|apply Q9|apply Qz|apply Xl|apply QE|apply XR|apply Q8|apply X0|apply X6|apply DE|apply Jp|apply Jv|apply JM|apply YV|apply QR|apply Yq|apply Qw|apply Q6|apply XC|apply Xu|apply Xf|apply Xx|apply Xn|apply Zn|apply WS|apply IW|apply IZ|apply IY|apply I0|apply I1|apply I2|apply I3|apply I4|apply I5|apply I6|apply I7|apply I8|apply Lm|apply Ln|apply Lv|apply Lw|apply Lx|apply Ly|exact I9|apply Le|apply Ll|apply Lq|exact Lr|apply Lu)|exact Q2 rfl|apply Zf rfl QO|apply Zf rfl ZJ|exact GQ|exact QZ|decide)
 generalize cs ++ cs.take k = chs at hc hl12 s3
 have hI : KC (JK K) [.int n, .list (chD chs), .list [.tup [.int 0]]] = .ok [.int n, .list (chD chs), .list [.tup [.int 0]]] := B5 K (ws := [[0]]) hc (fun c hcm => by
  rw [List.mem_singleton.mp hcm]
  exact ⟨by decide, by rw [Zx, Zx]; simp; exact Nat.le_of_lt h3⟩) (by decide) (by decide)
 have g9 := J2 (ds := chD chs) (by rw [ZN]; exact omB hl12)
 have s4 : (Vq 219 ["bells", "steps", "ways"] (JK K) (Qb (eOp 1) (Qb (Qc (QX Yw (Qb (eOp 3) Qi))) (Qb (Qc (Uq (QH (YL (QH (Qe (.int 0)) Zg)) Zg))) Qi)))) [some (.sh (.list (iL ns))), some (.sh (.int n)), some (.sh (.int m)), some (.sh (.list (chD chs))), none, none, none, none, none, none, none, none, none, none, none] = .ok (.sh (mth n chs [[0]])) [some (.sh (.list (iL ns))), some (.sh (.int n)), some (.sh (.int m)), some (.sh (.list (chD chs))), none, none, none, none, none, none, none, none, none, none, none] := by
  refine GF (bs := [.var 1, .val (.list (chD chs)), .val (.list [.tup [.int 0]])]) (ds := [.int n, .list (chD chs), .list [.tup [.int 0]]]) ?_ ?_ rfl hI
  ·repeat' (first|(with_reducible first|assumption|exact QO|exact ZJ|exact B1|exact YX|exact Ui|exact OT|exact Fr|exact BS|exact Cb|exact Ct|exact DV|exact DI|exact QK|exact QA|apply Qs|exact Uv|apply Y9|apply UN|exact E8|apply ZL|exact U0|apply UZ|exact Zc|exact X7|exact Xo|exact Zr|exact QQ|exact Ye|exact Qv|exact XU|apply Qm|apply QM|apply QJ|apply Ve|apply Ze|apply XO|apply Q9|apply Qz|apply Xl|apply QE|apply XR|apply Q8|apply X0|apply X6|apply DE|apply Jp|apply Jv|apply JM|apply YV|apply QR|apply Yq|apply Qw|apply Q6|apply XC|apply Xu|apply Xf|apply Xx|apply Xn|apply Zn|apply WS|apply IW|apply IZ|apply IY|apply I0|apply I1|apply I2|apply I3|apply I4|apply I5|apply I6|apply I7|apply I8|apply Lm|apply Ln|apply Lv|apply Lw|apply Lx|apply Ly|exact I9|apply Le|apply Ll|apply Lq|exact Lr|apply Lu)|exact Q2 rfl|apply Zf rfl QO|apply Zf rfl ZJ|exact GQ|exact QZ|decide)
  ·repeat' (first|(with_reducible first|assumption|exact QO|exact ZJ|exact B1|exact YX|exact Ui|exact OT|exact Fr|exact BS|exact Cb|exact Ct|exact DV|exact DI|exact QK|exact QA|apply Qs|exact Uv|apply Y9|apply UN|exact E8|apply ZL|exact U0|apply UZ|exact Zc|exact X7|exact Xo|exact Zr|exact QQ|exact Ye|exact Qv|exact XU|apply Qm|apply QM|apply QJ|apply Ve|apply Ze|apply XO|apply Q9|apply Qz|apply Xl|apply QE|apply XR|apply Q8|apply X0|apply X6|apply DE|apply Jp|apply Jv|apply JM|apply YV|apply QR|apply Yq|apply Qw|apply Q6|apply XC|apply Xu|apply Xf|apply Xx|apply Xn|apply Zn|apply WS|apply IW|apply IZ|apply IY|apply I0|apply I1|apply I2|apply I3|apply I4|apply I5|apply I6|apply I7|apply I8|apply Lm|apply Ln|apply Lv|apply Lw|apply Lx|apply Ly|exact I9|apply Le|apply Ll|apply Lq|exact Lr|apply Lu)|exact Q2 rfl|apply Zf rfl QO|apply Zf rfl ZJ|exact GQ|exact QZ|decide)
 have e5 := Dh K (ws := [[0]]) hc hl12
 have hR := JE hc.all (WW h3 h12)
 obtain ⟨dT, _, _, _, _, _, fd, h1000, _⟩ := FC K hc hl12 (x0 := .none)
 have e6 : Yo K [.list (ZG n chs)] = .ok (.sh (.bool true)) := K2 K (P := prs n chs) (XA (tks n chs)) fun h hh => by
  rw [(VX hc (Yz hh)).len]; exact omB h12
 have e7 := Ka K (ZG n chs)
 have e8 := VO n (by exact omB h12)
 have e9 : XT [.int (n : Int)] = some (.sh (.range 0 n 1)) := rfl
 have e10 := Wc K (Yb n) hc
 have hRl : (Qu (rng n) chs).length ≤ 13 := by rw [YG]; exact Nat.succ_le_succ hl12
 have e11 := Z2 (ds := Ql (Qu (rng n) chs)) (by rw [XG]; exact omB hRl)
 rw [XG] at e11
 have e12 : XT [.int ((Qu (rng n) chs).length : Nat)] = some (.sh (.range 0 ((Qu (rng n) chs).length : Nat) 1)) := rfl
 have e13 := WD (m := (Qu (rng n) chs).length) (by exact omB hRl)
 obtain ⟨ds, v9, v10, v11, s10⟩ := Db K (x0 := some (.sh (.list (iL ns)))) (x1 := some (.sh (.int n))) (x2 := some (.sh (.int m))) (x4 := some (.sh (mth n chs [[0]]))) (x5 := some (.ow true (.list (ZG n chs)))) (x12 := none) (x13 := none) (x14 := none) hc hR (Qu (rng n) chs) 0 [] [] none none none rfl (by
  rw [List.length_nil, Nat.zero_add]; exact Nat.le_trans (Nat.mul_le_mul (show _ ≤ 14 by exact Nat.succ_le_succ hRl) hRl) (by decide))
 have s10 : XF (QG 9) _ (nL (List.range' 0 (Qu (rng n) chs).length)) [some (.sh (.list (iL ns))), some (.sh (.int n)), some (.sh (.int m)), some (.sh (.list (chD chs))), some (.sh (mth n chs [[0]])), some (.ow true (.list (ZG n chs))), some (.sh (.tup (iL (rng n)))), some (.ow true (.list (Ql (Qu (rng n) chs)))), some (.ow true (.dict [] [])), none, none, none, none, none, none] = .ok .next [some (.sh (.list (iL ns))), some (.sh (.int n)), some (.sh (.int m)), some (.sh (.list (chD chs))), some (.sh (mth n chs [[0]])), some (.ow true (.list (ZG n chs))), some (.sh (.tup (iL (rng n)))), some (.ow true (.list (Ql (Qu (rng n) chs)))), some (.ow true (.dict (tks n chs) ds)), v9, v10, v11, none, none, none] := s10
 have s11 := Dr K (x0 := some (.sh (.list (iL ns)))) (x1 := some (.sh (.int n))) (x2 := some (.sh (.int m))) (x3 := some (.sh (.list (chD chs)))) (x4 := some (.sh (mth n chs [[0]]))) (x6 := some (.sh (.tup (iL (rng n))))) (x7 := some (.ow true (.list (Ql (Qu (rng n) chs))))) (x9 := v9) (x10 := v10) (x11 := v11) (x12 := none) (x13 := none) (x14 := none) (ds := ds) hc h1000
 obtain ⟨w9, w10, w12, q12⟩ := C6 K (x0 := some (.sh (.list (iL ns)))) (x1 := some (.sh (.int n))) (x2 := some (.sh (.int m))) (x4 := some (.sh (mth n chs [[0]]))) (x8 := some (.ow true (.dict (tks n chs) ds))) (v11 := v11) (v13 := none) (v14 := none) (tb := ZG n chs) hc hl12 (XA (tks n chs)) v9 v10 none fun h hh => by
  obtain ⟨j, hj⟩ := WE (Yz hh)
  obtain ⟨x, hx, _⟩ := fd.hit hj
  exact ⟨(VX hc (Yz hh)).len, by rw [hx]; rfl⟩
 have s12 : (U2 5 (Xg [12, 9, 10]) (QD neI (Qc (YL (QH (Q3 9) (QH (Q3 10) Zg)))) (Qc (Qy (Xe K) (Qb (eOp 7) (Qb (Qc (Qy (Xy K) (Qb (eOp 12) (Qb (eOp 3) Qi)))) (Qb (Qc (Qr eqI (eOp 12) (eOp 6))) Qi))))))) [some (.sh (.list (iL ns))), some (.sh (.int n)), some (.sh (.int m)), some (.sh (.list (chD chs))), some (.sh (mth n chs [[0]])), some (.ow true (.list (ZG n chs))), some (.sh (.tup (iL (rng n)))), some (.ow true (.list (Ql (Qu (rng n) chs)))), some (.ow true (.dict (tks n chs) ds)), v9, v10, v11, none, none, none] = .ok .next [some (.sh (.list (iL ns))), some (.sh (.int n)), some (.sh (.int m)), some (.sh (.list (chD chs))), some (.sh (mth n chs [[0]])), some (.ow true (.list (ZG n chs))), some (.sh (.tup (iL (rng n)))), some (.ow true (.list (Ql (Qu (rng n) chs)))), some (.ow true (.dict (tks n chs) ds)), w9, w10, v11, w12, none, none] := FM rfl q12
 obtain ⟨z12, s13⟩ := EV K (x0 := some (.sh (.list (iL ns)))) (x2 := some (.sh (.int m))) (x4 := some (.sh (mth n chs [[0]]))) (x5 := some (.ow true (.list (ZG n chs)))) (x9 := w9) (x10 := w10) (x11 := v11) (v12 := w12) (x13 := none) (x14 := none) (ds := ds) hc hl12 fd
 have htab : (ZG n chs).length ≤ 1000 := by unfold ZG; rw [List.length_map, J8]; exact h1000
 have e14 := J2 (ds := ZG n chs) (by exact omB htab)
 have s16 : K9 5 [some (.sh (.list (iL ns))), some (.sh (.int n)), some (.sh (.int m)), some (.sh (.list (chD chs))), some (.sh (mth n chs [[0]])), some (.ow true (.list (ZG n chs))), some (.sh (.tup (iL (rng n)))), some (.ow true (.list (Ql (Qu (rng n) chs)))), some (.ow true (.dict (tks n chs) ds)), w9, w10, v11, z12, some (.ow true (.list (ZG n chs))), some (.ow true (.list (ZG n chs)))] = .ok (.sh .none) [some (.sh (.list (iL ns))), some (.sh (.int n)), some (.sh (.int m)), some (.sh (.list (chD chs))), some (.sh (mth n chs [[0]])), some (.ow true (.list [])), some (.sh (.tup (iL (rng n)))), some (.ow true (.list (Ql (Qu (rng n) chs)))), some (.ow true (.dict (tks n chs) ds)), w9, w10, v11, z12, some (.ow true (.list (ZG n chs))), some (.ow true (.list (ZG n chs)))] := HV (ZL rfl (by exact omB htab)) rfl
 have e15 : eqI (.list (ZG n chs)) (.list (ZG n chs)) = some (.sh (.bool true)) := V9 (GC _ _)
 generalize ZG n chs = tb at *
 unfold BT E5
 refine' XB [some (.sh (.list (iL ns))), none, none, none, none, none, none, none, none, none, none, none, none, none, none] rfl rfl ?_ XE
 repeat' (first|(with_reducible first|assumption|exact QO|exact ZJ|exact B1|exact YX|exact Ui|exact OT|exact Fr|exact BS|exact Cb|exact Ct|exact DV|exact DI|exact QK|exact QA|apply Qs|exact Uv|apply Y9|apply UN|exact E8|apply ZL|exact U0|apply UZ|exact Zc|exact X7|exact Xo|exact Zr|exact QQ|exact Ye|exact Qv|exact XU|apply Qm|apply QM|apply QJ|apply Ve|apply Ze|apply XO|apply Q9|apply Qz|apply Xl|apply QE|apply XR|apply Q8|apply X0|apply X6|apply DE|apply Jp|apply Jv|apply JM|apply YV|apply QR|apply Yq|apply Qw|apply Q6|apply XC|apply Xu|apply Xf|apply Xx|apply Xn|apply Zn|apply WS|apply IW|apply IZ|apply IY|apply I0|apply I1|apply I2|apply I3|apply I4|apply I5|apply I6|apply I7|apply I8|apply Lm|apply Ln|apply Lv|apply Lw|apply Lx|apply Ly|exact I9|apply Le|apply Ll|apply Lq|exact Lr|apply Lu)|exact Q2 rfl|apply Zf rfl QO|apply Zf rfl ZJ|exact GQ|exact QZ|decide)
end Mine
end

section
theorem PySem.Challenge.cw_uf010040_09_holds : PySem.Challenge.rw_uf010040_09.Holds :=
 Mine.law09_enter fun P ns hl => Mine.law09_plain _ ns hl
end
