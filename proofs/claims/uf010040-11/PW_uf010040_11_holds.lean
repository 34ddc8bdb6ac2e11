import PyProof.Rows.All
import Wide.All
import OpenK.AllK
import Wide.FinOn
import PyProof.StationsW
import PyProof.Cells
import PyProof.Walks
import PyProof.WalksMore
import PyProof.RangeIter
import PyProof.Rows.Frame
import PyProof.ListIndex
import PyProof.Rules2
import PyProof.Rules3
import PyProof.PureInt
import PyProof.IsRules
import PyProof.EqLayable
import PyProof.Rows.RuleB_mul
import PyProof.Rows.RuleB_mod
import PyProof.Rows.RuleB_floordiv
import PyProof.Rows.RuleB_small
import PyProof.Rows.EqDataRows
import PyProof.NoPylong
import PyProof.RulesDelMore
import PyProof.ForAny
import PyProof.RulesAs
import PyProof.NsDelKeeps
import PyProof.SliceMore
import PyProof.Rows.TupMore
import PyProof.Rows.TupSub
import PyProof.Rows.StrTemp
import PyProof.Rows.TupAdd
import PyProof.ListIndexNeg
import PyProof.ListMulAny
import PyProof.Rows.ListMul
import PyProof.ListRange
import PyProof.TupleOfSeq
import PyProof.ListCopy
import PyProof.RangeFor
import PyProof.ConsumeWalk
import PyProof.CallStr
import PyProof.Rows.SortWalk
import PyProof.Rows.Lst
import PyProof.Rows.Range3
import PyProof.Rows.ListMade
import PyProof.ListOps
import PyProof.CallRoads
import PyProof.Rows.TupAssign
import PyProof.EnumMake
import PyProof.Draws
import PyProof.Rows.TupIter
import PyProof.CompFree
import PyProof.CompUse
import KE.KRevSl
import PyProof.P3In
import PyProof.SliceStr2
import PyProof.StrOps
import PyProof.Rows.StrWeight2
import PyProof.Rows.StrIndexOr
import PyProof.StrLoop
import PyProof.StrWalks
import PyProof.Rows.StrMadeLen
import PyProof.Rows.SortStr
import PyProof.CollectStr
import PyProof.ListStr
import PyProof.DictRoadsH
import PyProof.MeetsDict
import PyProof.DictKinds
import PyProof.FactsAll.dict_0
import PyProof.FactsAll.dict_3
import PyProof.InstStore
import KE.KRevIter
import PyProof.Conv_int_bool
import PyProof.EqAt
import PyProof.FactsAll.list_3
import PyProof.WalkInts
import PyProof.SeqI3
import PyProof.Rows.SeqJoint
import PyProof.ZipIter
import PyProof.Rows.ZipGen
import Open.Head
import PySem.Challenge.RW_uf010040_11
set_option tactic.hygienic false
set_option compiler.extract_closed false
set_option genSizeOfSpec false
set_option bootstrap.genMatcherCode false
section
open PySem PySem.W PyProof.Rows
set_option Elab.async false
set_option maxRecDepth 100000
set_option maxHeartbeats 80000000
namespace Mine
noncomputable def vw : Program := view PySem.Challenge.pw_uf010040_11 [0, 2, 3, 4, 5, 6, 7, 8, 10, 11, 12, 13, 14, 15, 17, 19, 20, 21, 23, 24, 26, 27, 28, 30, 31, 32, 33, 34, 35, 36, 37, 38, 39]
local macro_rules | `(tactic| o_head $H) => `(tactic| (refine holds_open (q := vw) (loose := []) (Xt := fun s => xlAt vw [] s && recOk [] s) (XP := XL vw []) (Yf := Hook.obs $H) (Ya := Hook.val $H) (YP := Hook.says $H) (N := 8000) ?hl (Hook.of $H) (Hook.keeps $H) (fun s e => xl_of s (Bool.and_eq_true_iff.mp e).1) XL.keeps (by rfl) (by rfl) (by rfl) (fun s e => recFacts_of (Bool.and_eq_true_iff.mp e).2) (by rfl) (by first | assumption | decide +kernel) (by decide +kernel) ⟨rfl, rfl, rfl, rfl, rfl, by decide +kernel⟩ ?hw ?hc; (case hl => (intro w; unfold openEnds topFrom; rw [PySem.W.Fast.te14082659384304107361, PySem.W.Fast.te14364793385576792824, PySem.W.Fast.te4187177175401517315]; kernel_rfl))))
local macro_rules | `(tactic| o_law) => `(tactic| refine holds_law (by decide +kernel) fun said => ?_)
open_top hd for PySem.Challenge.rw_uf010040_11
end Mine
end

section
set_option Elab.async false
set_option maxRecDepth 100000
namespace Mine
open PySem PySem.W
section
variable {prog : Program} {w : World} {A : Around} {E : Value → Shared → Prop} {h : Heap} {g : Array GenState} {d : Drawn} {t : Nat} {os : OsState} {a C : Addr} {o : Obj} {K : Frag}
theorem Ei {M : Model} {nameV : Value} {Q : Unit → Shared → Prop} (X : K.In h) (hx : h.get? a = some o) (hc : o.cls = .ref C) (hm : mroIn K C (.type "BaseException") = some true)
  (hq : Q () ⟨h, g, d, t, os⟩) : wpAny M A (checkBuiltinCall "BaseException.__getattribute__" ⟨[.ref a, nameV], []⟩) Q E ⟨h, g, d, t, os⟩ := by
 have hk : builtinKind "BaseException.__getattribute__" = some .slot := by decide +kernel
 have hsplit : splitId "BaseException.__getattribute__" = some ("BaseException", "__getattribute__") := by decide +kernel
 have ha := F.args_bexc_ga (.ref a) nameV
 have L1 := looks_mroIn (M := M) X hm
 simp only [checkBuiltinCall, hk, hsplit]
 refine wpAny_bind ?_
 unfold isInstance
 repeat (first | (with_reducible refine wpAny_loadPart_at hx ?_; rw [hc]) | (with_reducible refine L1.at ?_) | wp_step)
 exact hq
theorem Fu {R : Result → Shared → Prop} {tp : Value} (X : K.In h) (hx : h.get? a = some o) (hc : o.cls = .ref C) (hm : mroIn K C (.type "object") = some true) (hn : notCls o = true) (hd : o.dict = none)
  (hq : R (.ok (.ret (.ref C))) ⟨h, g, d, t, os⟩) : codeAny (model prog w) A (.call (.builtin "getset_descriptor.__get__") ⟨[.builtin "object.__class__", .ref a, tp], []⟩) R ⟨h, g, d, t, os⟩ :=
 class_get (ox := o) (od := none) X ⟨hx, hc, hn, by rw [hd]; trivial⟩ hm hq
theorem EA {tk : Tok} {Q : Fin → Shared → Prop} (X : K.In h) (hx : h.get? a = some o) (hc : o.cls = .ref C) (hm : mroIn K C (.type "object") = some true) (hn : notCls o = true) (hd : o.dict = none)
  (hf : findObj K C none "__class__" = some (.bind (.builtin "getset_descriptor.__get__") (.builtin "object.__class__"))) (hq : Q (.done (.ret (.ref C))) ⟨h, g, d, t, os⟩) :
  wpAny (model prog w) A (Builtin.«object.__getattribute__» ⟨[.ref a, .str "__class__" tk], []⟩) Q E ⟨h, g, d, t, os⟩ := by
 have I : InstAt h a o C none := ⟨hx, hc, hn, by rw [hd]; trivial⟩
 have L0 := I.type (M := model prog w)
 have L1 := looks_find (M := model prog w) X I hf
 unfold Builtin.«object.__getattribute__»
 refine wpAny_bind (wpAny_pure ?_)
 refine wpAny_bind (m := Builtin.ObjectAttr.attrName _) (wpAny_pure ?_)
 refine wpAny_bind (L0.at (wpAny_bind (L1.at ?_)))
 show wpAny _ _ (holding [Value.builtin "object.__class__"] (call (.builtin "getset_descriptor.__get__") [.builtin "object.__class__", .ref a, .ref C]) >>= ret) _ _ _
 exact wpAny_bind (wpAny_holding (wpAny_call (Fu X hx hc hm hn hd (wpAny_pure hq))))
theorem Ga {tk : Tok} {fill expr : Bool} {Q : Value → Shared → Prop} (X : K.In h) (hx : h.get? a = some o) (hc : o.cls = .ref C) (hm : mroIn K C (.type "object") = some true) (hmb : mroIn K C (.type "BaseException") = some true) (hn : notCls o = true) (hd : o.dict = none)
  (hga : findIn K (.ref C) "__getattribute__" = some (some (.builtin "BaseException.__getattribute__"))) (hgt : findIn K (.ref C) "__getattr__" = some none)
  (hf : findObj K C none "__class__" = some (.bind (.builtin "getset_descriptor.__get__") (.builtin "object.__class__"))) (hq : Q (.ref C) ⟨h, g, d, t, os⟩) :
  wpAny (model prog w) A (getAttrBy (.ref a) (.str "__class__" tk) fill expr) Q E ⟨h, g, d, t, os⟩ := by
 have I : InstAt h a o C none := ⟨hx, hc, hn, by rw [hd]; trivial⟩
 have L0 := I.type (M := model prog w)
 have L1 := looks_findIn (M := model prog w) X hga
 have L2 := looks_findIn (M := model prog w) X hgt
 have f3 := F.excAttr_ValueError.ga.bind (.ref a)
 have hx0 : (expr && onTheHeap (Value.builtin "BaseException.__getattribute__")) = false := by cases expr <;> rfl
 have hx2 : (Value.builtin "BaseException.__getattribute__" == Value.builtin "object.__getattribute__") = false := by decide +kernel
 have hx1 : (onTheHeap (Value.ref C) && Value.builtin "BaseException.__getattribute__" == Value.builtin "object.__getattribute__") = false := by rw [hx2]; rfl
 repeat (any_goals (first | assumption | (with_reducible refine L0.at ?_) | (with_reducible refine L1.at ?_) | (with_reducible refine L2.at ?_) | wp_step))
 refine codeAny_call_builtin F.excAttr_ValueError.ga.plain F.entry_bexc_ga (Ei X hx hc hmb (EA X hx hc hm hn hd hf ?_))
 show wpAny _ _ (handedOut (.ref C)) _ _ _
 exact handed_on rfl hq
set_option tactic.hygienic true in
theorem Es (hm : mroIn K C (.type "object") = some true) (hmb : mroIn K C (.type "BaseException") = some true) (hcl : (clsIn K C).isSome = true)
  (hga : findIn K (.ref C) "__getattribute__" = some (some (.builtin "BaseException.__getattribute__"))) (hgt : findIn K (.ref C) "__getattr__" = some none)
  (hf : findObj K C none "__class__" = some (.bind (.builtin "getset_descriptor.__get__") (.builtin "object.__class__"))) :
  KitX K (.ref a) (.ref C) (fun h => ∃ o, h.get? a = some o ∧ o.cls = .ref C ∧ notCls o = true ∧ o.dict = none) where
 ty := fun _ _ _ I => by obtain ⟨o, h1, h2, h3, h4⟩ := I; exact InstAt.type (od := none) ⟨h1, h2, h3, by rw [h4]; trivial⟩
 it := fun M h X _ => by
  unfold clsIn at hcl
  split at hcl
  ·rename_i ho
   intro A' Q' E' s' k q
   unfold isType loadHead
   exact wpAny_bind (wpAny_loadPart (k _ _ (X _ _ ho)) (wpAny_pure q))
  ·cases hcl
 ne := fun h tp dd its n sl X e => by
  unfold clsIn at hcl
  split at hcl
  ·rename_i ho
   refine Bool.eq_false_iff.mpr fun q => ?_
   cases beq_iff_eq.mp q
   rw [X _ _ ho] at e; cases e
  ·cases hcl
 ca := fun {prog w A E Q s} X I k => by
  obtain ⟨o, h1, h2, h3, h4⟩ := I
  obtain ⟨h, g, d, t, os⟩ := s
  unfold getAttr? getAttrBy?
  refine wpAny_bind (wpAny_mkText (wpAny_bind (wpAny_attempt ?_)))
  exact Ga X h1 h2 hm hmb h3 h4 hga hgt hf (wpAny_pure k)
noncomputable def OD (K : Frag) (C : Addr) : Bool := mroIn K C (.type "object") == some true && mroIn K C (.type "BaseException") == some true && (clsIn K C).isSome && findIn K (.ref C) "__getattribute__" == some (some (.builtin "BaseException.__getattribute__")) &&
 findIn K (.ref C) "__getattr__" == some none && (match findObj K C none "__class__" with | some (.bind g a) => g == .builtin "getset_descriptor.__get__" && a == .builtin "object.__class__" | _ => false)
set_option tactic.hygienic true in
theorem BJ (e : OD K C = true) : KitX K (.ref a) (.ref C) (fun h => ∃ o, h.get? a = some o ∧ o.cls = .ref C ∧ notCls o = true ∧ o.dict = none) := by
 unfold OD at e
 simp only [Bool.and_eq_true, beq_iff_eq] at e
 obtain ⟨⟨⟨⟨⟨h1, h2⟩, h3⟩, h4⟩, h5⟩, h6⟩ := e
 refine Es h1 h2 h3 h4 h5 ?_
 split at h6
 ·rename_i gg aa hf
  rw [Bool.and_eq_true, beq_iff_eq, beq_iff_eq] at h6
  rw [hf, h6.1, h6.2]
 ·cases h6
end
end Mine
end

section
set_option Elab.async false
set_option maxRecDepth 100000
namespace Mine
open PySem
theorem nn {α : Type} {a : α} {P : Prop} (h : (Option.none : Option α) = Option.some a) : P := by cases h
theorem ifs {c : Prop} [Decidable c] {α : Type} {a : Option α} {t : α} (h : (if c then a else none) = some t) : c ∧ a = some t := by
 by_cases hc : c
 ·rw [if_pos hc] at h; exact ⟨hc, h⟩
 ·rw [if_neg hc] at h; exact nn h
inductive D where
 | none
 | bool (b : Bool)
 | int (i : Int)
 | str (x : Str)
 | tup (ds : List D)
 | list (ds : List D)
 | range (lo hi st : Int)
 | exc (C : Addr)
 | glob (v : Value)
 | dict (ks : List (List Int)) (ds : List D)
 | obj (C : Addr) (ns : List Str) (ds : List D)
noncomputable def asI : D → Option Int
 | .int i => some i
 | _ => none
theorem Jw {x : D} {i : Int} (e : asI x = some i) : x = .int i := by
 cases x <;> first | (cases e; rfl) | exact nn e
inductive T where
 | sh (d : D)
 | ow (m : Bool) (d : D)
noncomputable def T.val : T → D
 | .sh d => d
 | .ow _ d => d
noncomputable def T.get : T → Option D
 | .sh d => some d
 | .ow _ (.list ds) => some (.list ds)
 | .ow _ _ => none
noncomputable def VU : D → Bool
 | .int _ => true
 | _ => false
noncomputable def Gi (o : Obj) (_ : List D) : Prop := o.dict = Option.none ∧ o.slots = #[]
noncomputable def XK (o : Obj) : Prop := ∀ es n, o.data ≠ .dict es n
theorem XK.seq {o : Obj} {vs : Array Value} {n : Nat} (h : o.data = .seq vs n) : XK o := fun es m q => by rw [h] at q; cases q
theorem XK.fields {o : Obj} {vs : Array Value} (h : o.data = .fields vs) : XK o := fun es m q => by rw [h] at q; cases q
noncomputable def Kp (h h' : Heap) : Prop := ∀ b o, h.get? b = some o → ∃ sl, h'.get? b = some { o with slots := sl } ∧ (XK o → sl = o.slots)
theorem Kp.trans {h₁ h₂ h₃ : Heap} (x : Kp h₁ h₂) (y : Kp h₂ h₃) : Kp h₁ h₃ := fun b o e => by
 obtain ⟨sl, e₁, q₁⟩ := x b o e
 obtain ⟨sl', e₂, q₂⟩ := y b _ e₁
 exact ⟨sl', e₂, fun hc => (q₂ hc).trans (q₁ hc)⟩
theorem Kp.of_keeps {h h' : Heap} (k : ∀ b o, h.get? b = some o → h'.get? b = some o) : Kp h h' := fun b o e => ⟨o.slots, k b o e, fun _ => rfl⟩
theorem Kp.exact {h h' : Heap} (x : Kp h h') {b : Addr} {o : Obj} (e : h.get? b = some o) (hc : XK o) : h'.get? b = some o := by
 obtain ⟨sl, e₁, q⟩ := x b o e
 rw [q hc] at e₁; exact e₁
theorem Kp.dom {h h' : Heap} (x : Kp h h') {b : Addr} {o : Obj} (e : h.get? b = some o) : ∃ o', h'.get? b = some o' := let ⟨_, e₁, _⟩ := x b o e; ⟨_, e₁⟩
theorem Kp.ns {h h' : Heap} (x : Kp h h') {a : Addr} {m : Str → Option Value} (hn : h.Ns a m) : h'.Ns a m := by
 obtain ⟨o, es, ep, ho, hd, r⟩ := hn
 obtain ⟨sl, e₁, _⟩ := x a o ho
 exact ⟨_, es, ep, e₁, hd, r⟩
theorem Kp.cell {h h' : Heap} (x : Kp h h') {c : Addr} {v : Option Value} (hn : h.IsCell c v) : h'.IsCell c v := by
 obtain ⟨o, ho, hd⟩ := hn
 obtain ⟨sl, e₁, _⟩ := x c o ho
 exact ⟨_, e₁, hd⟩
theorem Kp.none {h h' : Heap} (x : Kp h h') {b : Addr} (e : h'.get? b = none) : h.get? b = none := by
 cases q : h.get? b with
 | none => rfl
 | some o => obtain ⟨_, e₁, _⟩ := x b o q; rw [e] at e₁; cases e₁
noncomputable def Imm (o : Obj) : Prop := (o.cls = .type "tuple" ∧ ∃ vs n, o.data = .seq vs n) ∨ ∃ vs, o.data = .fields vs
mutual
inductive RV (S : Addr → Prop) (h : Heap) : Value → D → Prop
 | none : RV S h .none .none
 | bool (b : Bool) : RV S h (.bool b) (.bool b)
 | int (i : Int) (t : Tok) : RV S h (.int i t) (.int i)
 | str (x : Str) (t : Tok) : RV S h (.str x t) (.str x)
 | tup {a : Addr} {o : Obj} {vs : Array Value} {n : Nat} {ds : List D} : h.get? a = some o → o.cls = .type "tuple" → o.data = .seq vs n → RVs S h vs.toList ds → RV S h (.ref a) (.tup ds)
 | list {a : Addr} {o : Obj} {vs : Array Value} {n : Nat} {ds : List D} : S a → h.get? a = some o → (o.cls = .type "list" ∧ Gi o ds) → o.data = .seq vs n → RVs S h vs.toList ds → RV S h (.ref a) (.list ds)
 | range {a : Addr} {lo hi st : Int} {t u v : Tok} : IsRange h a lo hi st t u v → RV S h (.ref a) (.range lo hi st)
 | exc {a : Addr} {o : Obj} {vs : Array Value} {C : Addr} : h.get? a = some o → o.cls = .ref C → o.dict = none → o.data = .fields vs → vs[2]? = some .none → RV S h (.ref a) (.exc C)
 | glob (v : Value) : (∀ a, v = .ref a → ∃ o, h.get? a = some o) → RV S h v (.glob v)
 | obj {a dx C : Addr} {m : Str → Option Value} {ns : List Str} {vs : List Value} {ds : List D} : S a → S dx → h.get? a = some (W.instObj C dx) → h.Ns dx m → (ns.map m = vs.map some ∧ ∀ y, y ∉ ns → m y = Option.none) → RVs S h vs ds → RV S h (.ref a) (.obj C ns ds)
inductive RVs (S : Addr → Prop) (h : Heap) : List Value → List D → Prop
 | nil : RVs S h [] []
 | cons {v : Value} {d : D} {vs : List Value} {ds : List D} : RV S h v d → RVs S h vs ds → RVs S h (v :: vs) (d :: ds)
end
structure Ext (S : Addr → Prop) (h : Heap) (S' : Addr → Prop) (h' : Heap) : Prop where
 sub : ∀ b, S b → S' b
 keep : ∀ b o, h.get? b = some o → (S b ∨ Imm o) → ∃ sl, h'.get? b = some { o with slots := sl } ∧ (XK o → sl = o.slots)
 dom : ∀ b o, h.get? b = some o → ∃ o', h'.get? b = some o'
theorem Ext.exact {S : Addr → Prop} {h : Heap} {S' : Addr → Prop} {h' : Heap} (x : Ext S h S' h') {b : Addr} {o : Obj} (e : h.get? b = some o) (q : S b ∨ Imm o) (hn : XK o) : h'.get? b = some o := by
 obtain ⟨sl, e₁, k⟩ := x.keep b o e q
 rw [k hn] at e₁; exact e₁
theorem Ext.ns {S : Addr → Prop} {h : Heap} {S' : Addr → Prop} {h' : Heap} (x : Ext S h S' h') {a : Addr} {m : Str → Option Value} (q : S a) (hn : h.Ns a m) : h'.Ns a m := by
 obtain ⟨o, es, ep, ho, hd, r⟩ := hn
 obtain ⟨sl, e₁, _⟩ := x.keep a o ho (.inl q)
 exact ⟨_, es, ep, e₁, hd, r⟩
theorem Ext.refl (S : Addr → Prop) (h : Heap) : Ext S h S h := ⟨fun _ x => x, fun _ o e _ => ⟨o.slots, e, fun _ => rfl⟩, fun _ o e => ⟨o, e⟩⟩
theorem Ext.trans {S₁ S₂ S₃ : Addr → Prop} {h₁ h₂ h₃ : Heap} (x : Ext S₁ h₁ S₂ h₂) (y : Ext S₂ h₂ S₃ h₃) : Ext S₁ h₁ S₃ h₃ :=
 ⟨fun b q => y.sub b (x.sub b q), fun b o e q => by
  obtain ⟨sl, e₁, k₁⟩ := x.keep b o e q
  obtain ⟨sl', e₂, k₂⟩ := y.keep b _ e₁ (q.imp (x.sub b) id)
  exact ⟨sl', e₂, fun hn => (k₂ hn).trans (k₁ hn)⟩, fun b o e => let ⟨o', e'⟩ := x.dom b o e; y.dom b o' e'⟩
theorem Ext.none {S S' : Addr → Prop} {h h' : Heap} (x : Ext S h S' h') {b : Addr} (e : h'.get? b = none) : h.get? b = none := by
 cases q : h.get? b with
 | none => rfl
 | some o => obtain ⟨_, e₁⟩ := x.dom b o q; rw [e] at e₁; cases e₁
structure Carry (S : Addr → Prop) (h : Heap) (S' : Addr → Prop) (h' : Heap) : Prop where
 tup : ∀ {a : Addr} {o : Obj} {vs : Array Value} {n : Nat}, h.get? a = some o → o.cls = .type "tuple" → o.data = .seq vs n → h'.get? a = some o
 list : ∀ {a : Addr} {o : Obj} {vs : Array Value} {n : Nat}, S a → h.get? a = some o → o.cls = .type "list" → o.data = .seq vs n → S' a ∧ h'.get? a = some o
 range : ∀ {a : Addr} {lo hi st : Int} {t u v : Tok}, IsRange h a lo hi st t u v → IsRange h' a lo hi st t u v
 exc : ∀ {a : Addr} {o : Obj} {vs : Array Value} {C : Addr}, h.get? a = some o → o.cls = .ref C → o.dict = none → o.data = .fields vs → vs[2]? = some .none → RV S' h' (.ref a) (.exc C)
 dom : ∀ a o, h.get? a = some o → ∃ o', h'.get? a = some o'
 obj : ∀ {a dx C : Addr} {m : Str → Option Value}, S a → S dx → h.get? a = some (W.instObj C dx) → h.Ns dx m → S' a ∧ S' dx ∧ h'.get? a = some (W.instObj C dx) ∧ h'.Ns dx m
section
variable {S S' : Addr → Prop} {h h' : Heap}
theorem RV.map (x : Carry S h S' h') {v : Value} {d : D} (q : RV S h v d) : RV S' h' v d :=
 RV.rec (motive_1 := fun v d _ => RV S' h' v d) (motive_2 := fun vs ds _ => RVs S' h' vs ds) .none .bool .int .str (fun e hc hd _ r => .tup (x.tup e hc hd) hc hd r) (fun hs e hc hd _ r => .list (x.list hs e hc.1 hd).1 (x.list hs e hc.1 hd).2 hc hd r) (fun e => .range (x.range e)) (fun e hc hn hd r => x.exc e hc hn hd r) (fun v hv => .glob v fun a e => let ⟨o, e'⟩ := hv a e; x.dom a o e') (fun s1 s2 e n hm _ r => let ⟨t1, t2, e', n'⟩ := x.obj s1 s2 e n; .obj t1 t2 e' n' hm r) .nil (fun _ _ a b => .cons a b) q
theorem RVs.map (x : Carry S h S' h') {vs : List Value} {ds : List D} (q : RVs S h vs ds) : RVs S' h' vs ds :=
 RVs.rec (motive_1 := fun v d _ => RV S' h' v d) (motive_2 := fun vs ds _ => RVs S' h' vs ds) .none .bool .int .str (fun e hc hd _ r => .tup (x.tup e hc hd) hc hd r) (fun hs e hc hd _ r => .list (x.list hs e hc.1 hd).1 (x.list hs e hc.1 hd).2 hc hd r) (fun e => .range (x.range e)) (fun e hc hn hd r => x.exc e hc hn hd r) (fun v hv => .glob v fun a e => let ⟨o, e'⟩ := hv a e; x.dom a o e') (fun s1 s2 e n hm _ r => let ⟨t1, t2, e', n'⟩ := x.obj s1 s2 e n; .obj t1 t2 e' n' hm r) .nil (fun _ _ a b => .cons a b) q
theorem Ext.carry (x : Ext S h S' h') : Carry S h S' h' where
 tup := fun e hc hd => x.exact e (.inr (.inl ⟨hc, _, _, hd⟩)) (.seq hd)
 list := fun hs e hc hd => ⟨x.sub _ hs, x.exact e (.inl hs) (.seq hd)⟩
 range := fun e => x.exact e (.inr (.inr ⟨_, rfl⟩)) (.fields rfl)
 exc := fun e hc hn hd r => .exc (x.exact e (.inr (.inr ⟨_, hd⟩)) (.fields hd)) hc hn hd r
 dom := x.dom
 obj := fun s1 s2 e n => ⟨x.sub _ s1, x.sub _ s2, x.exact e (.inl s1) (fun es m q => by cases q), x.ns s2 n⟩
theorem RV.ext (x : Ext S h S' h') {v : Value} {d : D} (q : RV S h v d) : RV S' h' v d := q.map x.carry
theorem RVs.ext (x : Ext S h S' h') {vs : List Value} {ds : List D} (q : RVs S h vs ds) : RVs S' h' vs ds := q.map x.carry
end
theorem Ext.of_keeps {S : Addr → Prop} {h h' : Heap} (k : ∀ b o, h.get? b = some o → h'.get? b = some o) : Ext S h S h' := ⟨fun _ q => q, fun b o e _ => ⟨o.slots, k b o e, fun _ => rfl⟩, fun b o e => ⟨o, k b o e⟩⟩
theorem Ext.of_kp {S : Addr → Prop} {h h' : Heap} (k : Kp h h') : Ext S h S h' := ⟨fun _ q => q, fun b o e _ => k b o e, fun _ _ e => k.dom e⟩
theorem Ext.grow {S S' : Addr → Prop} {h : Heap} (q : ∀ b, S b → S' b) : Ext S h S' h := ⟨q, fun _ o e _ => ⟨o.slots, e, fun _ => rfl⟩, fun _ o e => ⟨o, e⟩⟩
theorem RV.live {S : Addr → Prop} {h : Heap} {v : Value} {d : D} (q : RV S h v d) : ∀ a, v = .ref a → ∃ o, h.get? a = some o := by
 intro a e
 cases q with
 | tup q _ _ _ => cases e; exact ⟨_, q⟩
 | list _ q _ _ _ => cases e; exact ⟨_, q⟩
 | range q => cases e; exact ⟨_, q⟩
 | exc q _ _ _ _ => cases e; exact ⟨_, q⟩
 | glob v q => exact q a e
 | obj _ _ q _ _ _ => cases e; exact ⟨_, q⟩
 | _ => cases e
theorem RVs.length {S : Addr → Prop} {h : Heap} {vs : List Value} : ∀ {ds : List D}, RVs S h vs ds → vs.length = ds.length := by
 induction vs with
 | nil => intro ds q; cases q; rfl
 | cons v vs ih => intro ds q; cases q with | cons _ r => exact congrArg (· + 1) (ih r)
theorem RVs.append {S : Addr → Prop} {h : Heap} {ws : List Value} {es : List D} (k : RVs S h ws es) {vs : List Value} : ∀ {ds : List D}, RVs S h vs ds → RVs S h (vs ++ ws) (ds ++ es) := by
 induction vs with
 | nil => intro ds q; cases q; exact k
 | cons v vs ih => intro ds q; cases q with | cons q r => exact .cons q (ih r)
theorem RVs.get {S : Addr → Prop} {h : Heap} {vs : List Value} : ∀ {ds : List D}, RVs S h vs ds → ∀ {k : Nat} {d : D}, ds[k]? = some d → ∃ v, vs[k]? = some v ∧ RV S h v d := by
 induction vs with
 | nil => intro ds q k d e; cases q; cases e
 | cons v vs ih =>
  intro ds q k d e
  cases q with
  | cons q r =>
   cases k with
   | zero => cases e; exact ⟨v, rfl, q⟩
   | succ k => exact ih r e
theorem RVs.drop {S : Addr → Prop} {h : Heap} {vs : List Value} : ∀ {ds : List D}, RVs S h vs ds → ∀ (k : Nat), RVs S h (vs.drop k) (ds.drop k) := by
 induction vs with
 | nil => intro ds q k; cases q; rw [List.drop_nil, List.drop_nil]; exact .nil
 | cons v vs ih =>
  intro ds q k
  cases q with
  | cons q r =>
   cases k with
   | zero => exact .cons q r
   | succ k => exact ih r k
theorem RVs.take {S : Addr → Prop} {h : Heap} {vs : List Value} : ∀ {ds : List D}, RVs S h vs ds → ∀ (k : Nat), RVs S h (vs.take k) (ds.take k) := by
 induction vs with
 | nil => intro ds q k; cases q; rw [List.take_nil, List.take_nil]; exact .nil
 | cons v vs ih =>
  intro ds q k
  cases q with
  | cons q r =>
   cases k with
   | zero => exact .nil
   | succ k => exact .cons q (ih r k)
theorem RVs.set {S : Addr → Prop} {h : Heap} {w : Value} {e : D} (k : RV S h w e) {vs : List Value} : ∀ {ds : List D}, RVs S h vs ds → ∀ (i : Nat), RVs S h (vs.set i w) (ds.set i e) := by
 induction vs with
 | nil => intro ds q i; cases q; exact .nil
 | cons v vs ih =>
  intro ds q i
  cases q with
  | cons q r =>
   cases i with
   | zero => exact .cons k r
   | succ i => exact .cons q (ih r i)
theorem RVs.mem {S : Addr → Prop} {h : Heap} {vs : List Value} : ∀ {ds : List D}, RVs S h vs ds → ∀ {v : Value}, v ∈ vs → ∃ d, d ∈ ds ∧ RV S h v d := by
 induction vs with
 | nil => intro ds q v m; cases m
 | cons w vs ih =>
  intro ds q v m
  cases q with
  | cons q r =>
   rcases List.mem_cons.mp m with e | m
   ·subst e; exact ⟨_, .head _, q⟩
   ·obtain ⟨d, hd, q⟩ := ih r m; exact ⟨d, .tail _ hd, q⟩
noncomputable def Var (env : Env) (h : Heap) (x : Str) (v : Value) : Prop :=
 (env.kindOf x = some .local ∧ ∃ m, h.Ns env.locals m ∧ m x = some v) ∨
 ((env.kindOf x = some .cell ∨ env.kindOf x = some .free) ∧ ∃ c, env.cells.lookup x = some c ∧ h.IsCell c (some v))
theorem Var.kp {env : Env} {h h' : Heap} (k : Kp h h') {x : Str} {v : Value} (q : Var env h x v) : Var env h' x v := by
 rcases q with ⟨a, m, b, c⟩ | ⟨a, c, b, d⟩
 ·exact .inl ⟨a, m, k.ns b, c⟩
 ·exact .inr ⟨a, c, b, k.cell d⟩
theorem IsCell.inj {h : Heap} {c : Addr} {v v' : Option Value} (a : h.IsCell c v) (b : h.IsCell c v') : v = v' := by
 obtain ⟨o, ho, hd⟩ := a
 obtain ⟨o', ho', hd'⟩ := b
 rw [ho] at ho'; cases ho'
 rw [hd] at hd'; cases hd'; rfl
theorem Var.inj {env : Env} {h : Heap} {x : Str} {v v' : Value} (a : Var env h x v) (b : Var env h x v') : v = v' := by
 rcases a with ⟨k, m, n, e⟩ | ⟨k, c, n, e⟩ <;> rcases b with ⟨k', m', n', e'⟩ | ⟨k', c', n', e'⟩
 ·have := n.agree n' x; rw [e, e'] at this; injection this
 ·rw [k] at k'; rcases k' with q | q <;> cases q
 ·rw [k'] at k; rcases k with q | q <;> cases q
 ·rw [n] at n'; cases n'; have := IsCell.inj e e'; injection this
noncomputable def XW (S : Addr → Prop) (h : Heap) (a : Addr) : D → Prop
 | .list ds => ∃ vs n, h.get? a = some { cls := .type "list", data := .seq vs n } ∧ RVs S h vs.toList ds
 | _ => False
theorem XW.ext {S S' : Addr → Prop} {h h' : Heap} {a : Addr} {d : D} (x : Ext S h S' h') (k : ∀ o, h.get? a = some o → h'.get? a = some o) (q : XW S h a d) : XW S' h' a d := by
 unfold XW at q ⊢
 split at q
 ·obtain ⟨vs, n, e, r⟩ := q; exact ⟨vs, n, k _ e, r.ext x⟩
 ·exact q
theorem XW.cls {S : Addr → Prop} {h : Heap} {a : Addr} {d : D} (q : XW S h a d) : ∃ o, h.get? a = some o ∧ o.cls = .type "list" ∧ (∃ vs n, o.data = .seq vs n) := by
 unfold XW at q
 split at q
 ·obtain ⟨vs, n, e, _⟩ := q; exact ⟨_, e, rfl, vs, n, rfl⟩
 ·exact q.elim
noncomputable def Uh (k : List Int) : D := .tup (k.map .int)
noncomputable def UF (k : List Int) : Int := reduceHash (Builtin.Tuple.tupleHashOf (k.map hashInt))
noncomputable def FW (x : List Int × Addr × Value) : DictEntry := ⟨UF x.1, .ref x.2.1, x.2.2⟩
noncomputable def XI (S : Addr → Prop) (h : Heap) (a : Addr) (ks : List (List Int)) (ds : List D) : Prop :=
 ∃ (o : Obj) (es : Array DictEntry) (n : Nat) (xs : List (List Int × Addr × Value)), h.get? a = some o ∧ (o.cls = .type "dict" ∧ o.dict = none) ∧ o.data = .dict es n ∧ es.toList = xs.map FW ∧
  xs.map (·.1) = ks ∧ ks.Nodup ∧ (∀ x ∈ xs, RV S h (.ref x.2.1) (Uh x.1)) ∧ RVs S h (xs.map (·.2.2)) ds ∧ (a == sysModules) = false
theorem XI.map {S S' : Addr → Prop} {h h' : Heap} {a : Addr} {ks : List (List Int)} {ds : List D} (x : Carry S h S' h') (k : ∀ o, h.get? a = some o → ∃ sl, h'.get? a = some { o with slots := sl }) (q : XI S h a ks ds) : XI S' h' a ks ds := by
 obtain ⟨o, es, n, xs, e, hc, hd, he, hk, nd, hr, rv, hm⟩ := q
 obtain ⟨sl, e'⟩ := k o e
 exact ⟨_, es, n, xs, e', hc, hd, he, hk, nd, fun y hy => (hr y hy).map x, rv.map x, hm⟩
noncomputable def JZ (S : Addr → Prop) (h : Heap) (a : Addr) : D → Prop
 | .dict ks ds => XI S h a ks ds
 | d => XW S h a d
theorem XW.map {S S' : Addr → Prop} {h h' : Heap} {a : Addr} {d : D} (x : Carry S h S' h') (k : ∀ o, h.get? a = some o → XK o → h'.get? a = some o) (q : XW S h a d) : XW S' h' a d := by
 unfold XW at q ⊢
 split at q
 ·obtain ⟨vs, n, e, r⟩ := q; exact ⟨vs, n, k _ e (.seq rfl), r.map x⟩
 ·exact q
theorem XW.v {S : Addr → Prop} {h : Heap} {a : Addr} {d : D} (q : XW S h a d) : JZ S h a d := by
 cases d <;> first | exact q | exact q.elim
theorem JZ.cases {S : Addr → Prop} {h : Heap} {a : Addr} {d : D} (q : JZ S h a d) : XW S h a d ∨ ∃ ks ds, d = .dict ks ds ∧ XI S h a ks ds := by
 cases d <;> first | exact .inl q | exact .inr ⟨_, _, rfl, q⟩
theorem JZ.map {S S' : Addr → Prop} {h h' : Heap} {a : Addr} {d : D} (x : Carry S h S' h') (k : ∀ o, h.get? a = some o → (∃ vs n, o.data = .seq vs n) ∨ (∃ es n, o.data = .dict es n) → ∃ sl, h'.get? a = some { o with slots := sl } ∧ (XK o → sl = o.slots)) (q : JZ S h a d) : JZ S' h' a d := by
 rcases q.cases with q | ⟨ks, ds, rfl, q⟩
 ·refine (q.map x fun o e hn => ?_).v
  obtain ⟨o', e', _, vs, n, hd⟩ := q.cls
  rw [e] at e'; cases e'
  obtain ⟨sl, e₁, hs⟩ := k o e (.inl ⟨vs, n, hd⟩)
  rw [hs hn] at e₁; exact e₁
 ·refine XI.map x (fun o e => ?_) q
  obtain ⟨o', es, n, xs, e', hc, hd, _⟩ := q
  rw [e] at e'; cases e'
  obtain ⟨sl, e₁, _⟩ := k o e (.inr ⟨es, n, hd⟩)
  exact ⟨sl, e₁⟩
theorem JZ.ext {S S' : Addr → Prop} {h h' : Heap} {a : Addr} {d : D} (x : Ext S h S' h') (k : ∀ o, h.get? a = some o → ∃ sl, h'.get? a = some { o with slots := sl } ∧ (XK o → sl = o.slots)) (q : JZ S h a d) : JZ S' h' a d := q.map x.carry fun o e _ => k o e
theorem JZ.live {S : Addr → Prop} {h : Heap} {a : Addr} {d : D} (q : JZ S h a d) : ∃ o, h.get? a = some o ∧ ((∃ vs n, o.data = .seq vs n) ∨ ∃ es n, o.data = .dict es n) := by
 rcases q.cases with q | ⟨ks, ds, rfl, q⟩
 ·obtain ⟨o, e, _, vs, n, hd⟩ := q.cls; exact ⟨o, e, .inl ⟨vs, n, hd⟩⟩
 ·obtain ⟨o, es, n, _, e, _, hd, _⟩ := q; exact ⟨o, e, .inr ⟨es, n, hd⟩⟩
noncomputable def Dp (h₀ : Heap) (S : Addr → Prop) (h : Heap) (v : Value) : T → Prop
 | .sh d => RV S h v d
 | .ow m d => ∃ a, v = .ref a ∧ ¬ S a ∧ JZ S h a d ∧ (m = true → h₀.get? a = none)
noncomputable def FF (B h : Heap) (fs : List Env) : Prop := ∀ env ∈ fs, env.scope.kind ≠ .module ∧ ∃ L o, env.frame = some L ∧ B.get? L = none ∧ h.get? L = some o ∧ ∃ es n, o.data = .dict es n
theorem FF.kp {B h h' : Heap} {fs : List Env} (k : Kp h h') (x : FF B h fs) : FF B h' fs := fun env he => by
 obtain ⟨a, L, o, b, c, d, e⟩ := x env he
 obtain ⟨sl, e₁, _⟩ := k L o d
 exact ⟨a, L, _, b, c, e₁, e⟩
theorem FF.fun {B h : Heap} : ∀ {fs : List Env}, FF B h fs → h.FunFrames B fs
 | [], _ => trivial
 | env :: fs, x => by
  obtain ⟨a, L, o, b, c, d, es, n, f⟩ := x env (.head _)
  exact ⟨a, ⟨L, o, b, c, d, fun vs q => by rw [f] at q; cases q⟩, FF.fun fun e he => x e (.tail _ he)⟩
structure Gd where
 prog : Program
 w : World
 B : Heap
 mg : Str → Option Value
 mb : Str → Option Value
 K : W.Frag
 quiet : Bool := true
structure Gd.Ok (G : Gd) : Prop where
 g : G.B.Ns mainGlobals G.mg
 b : G.B.Ns builtinsNs G.mb
 nolimit : G.B.NoLimit
 K : G.K.In G.B
abbrev Gd.M (G : Gd) : Model := model G.prog G.w
structure Cx where
 A : Around
 env : Env
 fs : List Env
 h₀ : Heap
 P : Addr → Prop
noncomputable def Qf (sc : Scope) : List Str := (sc.names.filter fun x => x.2 == .local || x.2 == .cell || x.2 == .free).map (·.1)
abbrev AEnv := List (Option T)
noncomputable def Xb (x : Str) : Bool := x == "_law_e"
noncomputable def DOK (cx : Cx) (sc : Scope) (ρ : AEnv) (h : Heap) : Prop := ∀ (i : Nat) (x : Str) (m : Bool) (ks : List (List Int)) (ds : List D), (Qf sc)[i]? = some x → ρ[i]? = some (some (.ow m (.dict ks ds))) → ¬ Var cx.env h x (.ref cx.env.locals)
theorem DOK.back {cx : Cx} {sc : Scope} {ρ : AEnv} {h h' : Heap} (q : DOK cx sc ρ h) (k : ∀ x v, Var cx.env h' x v → Var cx.env h x v) : DOK cx sc ρ h' := fun i x m ks ds hx hi hv => q i x m ks ds hx hi (k _ _ hv)
theorem DOK.sub {cx : Cx} {sc : Scope} {ρ ρ' : AEnv} {h : Heap} (q : DOK cx sc ρ h) (k : ∀ (i : Nat) m ks ds, ρ'[i]? = some (some (.ow m (.dict ks ds))) → ∃ m' ks' ds', ρ[i]? = some (some (.ow m' (.dict ks' ds')))) : DOK cx sc ρ' h := fun i x m ks ds hx hi => let ⟨m', ks', ds', e⟩ := k i m ks ds hi; q i x m' ks' ds' hx e
theorem O4 {ρ : AEnv} {i j : Nat} {t u : T} (e : (ρ.set i (some t))[j]? = some (some u)) (h : u ≠ t) : ρ[j]? = some (some u) := by
 by_cases hij : i = j
 ·subst hij
  by_cases hl : i < ρ.length
  ·rw [List.getElem?_set_self hl] at e; cases e; exact absurd rfl h
  ·rw [List.getElem?_eq_none (by rw [List.length_set]; omega)] at e; cases e
 ·rw [List.getElem?_set_ne hij] at e; exact e
theorem DOK.set {cx : Cx} {sc : Scope} {ρ : AEnv} {h : Heap} {i : Nat} {t : T} (q : DOK cx sc ρ h) (ht : ∀ m ks ds, t ≠ .ow m (.dict ks ds)) : DOK cx sc (ρ.set i (some t)) h := q.sub fun j m ks ds e => ⟨m, ks, ds, O4 e fun q => ht m ks ds q.symm⟩
structure Rel (G : Gd) (cx : Cx) (sc : Scope) (ρ : AEnv) (S : Addr → Prop) (h : Heap) : Prop where
 base : G.B.StaysIn h
 keep : Kp cx.h₀ h
 ff : FF G.B h cx.fs
 ns : ∃ m, h.Ns cx.env.locals m
 cells : ∀ x c, cx.env.cells.lookup x = some c → ∃ v, h.IsCell c v
 sdom : ∀ b, S b → ∃ o, h.get? b = some o
 sok : ∀ b, S b → cx.P b ∨ cx.h₀.get? b = none
 sloc : ¬ S cx.env.locals
 scell : ∀ x c, cx.env.cells.lookup x = some c → ¬ S c
 live : ∀ x a, Xb x = false → Var cx.env h x (.ref a) → ∃ o, h.get? a = some o
 clean : ∀ (i : Nat) (x : Str) (m : Bool) (d : D), (Qf sc)[i]? = some x → ρ[i]? = some (some (.ow m d)) → Xb x = false
 hok : ∀ v, cx.A.handled = some v → ∃ C, RV S h v (.exc C)
 vars : ∀ (i : Nat) (x : Str) (t : T), (Qf sc)[i]? = some x → ρ[i]? = some (some t) → ∃ v, Var cx.env h x v ∧ Dp cx.h₀ S h v t
 inj : ∀ (i j : Nat) (x y : Str) (m m' : Bool) (d d' : D) (v : Value), (Qf sc)[i]? = some x → (Qf sc)[j]? = some y → ρ[i]? = some (some (.ow m d)) → ρ[j]? = some (some (.ow m' d')) → Var cx.env h x v → Var cx.env h y v → i = j
 dok : DOK cx sc ρ h
noncomputable def Qv (env : Env) (h h' : Heap) : Prop := ∀ x v, Var env h x v → Var env h' x v
theorem Qv.refl (env : Env) (h : Heap) : Qv env h h := fun _ _ q => q
theorem Qv.trans {env : Env} {h₁ h₂ h₃ : Heap} (a : Qv env h₁ h₂) (b : Qv env h₂ h₃) : Qv env h₁ h₃ := fun x v q => b x v (a x v q)
section
variable {G : Gd} {cx : Cx} {sc : Scope} {ρ : AEnv} {S S' : Addr → Prop} {h h' : Heap}
theorem Rel.ext_kp (_ : Rel G cx sc ρ S h) (k : Kp h h') : Ext S h S h' := Ext.of_kp k
theorem Dp.ext {h₀ : Heap} {v : Value} {t : T} (x : Ext S h S h') (k : Kp h h') (q : Dp h₀ S h v t) : Dp h₀ S h' v t := by
 cases t with
 | sh d => exact RV.ext x q
 | ow m d =>
  obtain ⟨a, e, ns, ow, n⟩ := q
  exact ⟨a, e, ns, ow.ext x fun o e' => k a o e', n⟩
theorem Var.of_kp {env : Env} (k : Kp h h') (ns : ∃ m, h.Ns env.locals m) (cl : ∀ x c, env.cells.lookup x = some c → ∃ v, h.IsCell c v) {x : Str} {v : Value} (q : Var env h' x v) : Var env h x v := by
 rcases q with ⟨a, m, b, c⟩ | ⟨a, c, b, d⟩
 ·obtain ⟨m₀, n₀⟩ := ns
  exact .inl ⟨a, m₀, n₀, by rw [(k.ns n₀).agree b x]; exact c⟩
 ·obtain ⟨v₀, i₀⟩ := cl x c b
  exact .inr ⟨a, c, b, by rw [IsCell.inj d (k.cell i₀)]; exact i₀⟩
theorem Rel.kp (r : Rel G cx sc ρ S h) (k : Kp h h') (hb : G.B.StaysIn h') : Rel G cx sc ρ S h' where
 base := hb
 keep := r.keep.trans k
 ff := r.ff.kp k
 ns := let ⟨m, n⟩ := r.ns; ⟨m, k.ns n⟩
 cells := fun x c e => let ⟨v, n⟩ := r.cells x c e; ⟨v, k.cell n⟩
 sdom := fun b q => let ⟨_, e⟩ := r.sdom b q; k.dom e
 sok := r.sok
 sloc := r.sloc
 scell := r.scell
 live := fun x a hd q => let ⟨_, e⟩ := r.live x a hd (Var.of_kp k r.ns r.cells q); k.dom e
 clean := r.clean
 hok := fun v q => let ⟨C, e⟩ := r.hok v q; ⟨C, e.ext (r.ext_kp k)⟩
 vars := fun i x t hx ht => by
  obtain ⟨v, hv, tv⟩ := r.vars i x t hx ht
  exact ⟨v, hv.kp k, tv.ext (r.ext_kp k) k⟩
 inj := fun i j x y m m' d d' v hx hy hi hj a b => r.inj i j x y m m' d d' v hx hy hi hj (Var.of_kp k r.ns r.cells a) (Var.of_kp k r.ns r.cells b)
 dok := r.dok.back fun _ _ q => Var.of_kp k r.ns r.cells q
theorem Rel.same (r : Rel G cx sc ρ S h) (k : Kp h h') : Qv cx.env h h' := fun _ _ q => q.kp k
theorem Rel.keeps (r : Rel G cx sc ρ S h) (k : ∀ b o, h.get? b = some o → h'.get? b = some o) : Rel G cx sc ρ S h' := r.kp (.of_keeps k) fun b o e => k b o (r.base b o e)
theorem Rel.notCell (r : Rel G cx sc ρ S h) {a : Addr} {o : Obj} (e : h.get? a = some o) (hd : ∀ v, o.data ≠ .cell v) : ∀ x c, cx.env.cells.lookup x = some c → c ≠ a := by
 rintro x c q rfl
 obtain ⟨v, o', e', hd'⟩ := r.cells x c q
 rw [e] at e'; cases e'; exact hd v hd'
theorem Rel.grow (r : Rel G cx sc ρ S h) {a : Addr} {o : Obj} (e : h.get? a = some o) (hn : cx.h₀.get? a = none) (hl : a ≠ cx.env.locals) (hcl : ∀ x c, cx.env.cells.lookup x = some c → c ≠ a) (hv : ∀ x, Xb x = false → ¬ Var cx.env h x (.ref a)) : Rel G cx sc ρ (fun b => S b ∨ b = a) h where
 base := r.base
 keep := r.keep
 ff := r.ff
 ns := r.ns
 cells := r.cells
 sdom := fun b q => q.elim (r.sdom b) fun q => ⟨o, by rw [q]; exact e⟩
 sok := fun b q => q.elim (r.sok b) fun q => .inr (by rw [q]; exact hn)
 sloc := fun q => q.elim r.sloc fun q => hl q.symm
 scell := fun x c e q => q.elim (r.scell x c e) (hcl x c e)
 live := r.live
 clean := r.clean
 hok := fun v q => let ⟨C, e⟩ := r.hok v q; ⟨C, e.ext (Ext.grow fun _ q => .inl q)⟩
 vars := fun i x t hx ht => by
  obtain ⟨v, hv', tv⟩ := r.vars i x t hx ht
  refine ⟨v, hv', ?_⟩
  cases t with
  | sh d => exact RV.ext (Ext.grow fun _ q => .inl q) tv
  | ow m d =>
   obtain ⟨b, rfl, ns, ow, n⟩ := tv
   exact ⟨b, rfl, fun q => q.elim ns fun q => hv x (r.clean i x m d hx ht) (q ▸ hv'), ow.ext (Ext.grow fun _ q => .inl q) (fun o e => ⟨o.slots, e, fun _ => rfl⟩), n⟩
 inj := r.inj
 dok := r.dok
end
inductive Res (α : Type) where
 | ok (a : α) (ρ : AEnv)
 | exc (C : Addr) (ρ : AEnv)
 | stuck
noncomputable def Res.bind {α β : Type} (r : Res α) (g : α → AEnv → Res β) : Res β := match r with
 | .ok a ρ => g a ρ
 | .exc C ρ => .exc C ρ
 | .stuck => .stuck
noncomputable def Fly (h h' : Heap) (e C : Addr) : Prop := h.get? e = none ∧ ∃ oe vs, h'.get? e = some oe ∧ oe.cls = .ref C ∧ oe.dict = none ∧ oe.data = .fields vs ∧ vs[2]? = some .none ∧
 (vs[1]? = some .none ∨ ∃ T oT ts, vs[1]? = some (.ref T) ∧ T ≠ e ∧ h.get? T = none ∧ h'.get? T = some oT ∧ oT.cls = .type "traceback" ∧ oT.data = .fields ts ∧ 3 < ts.size)
theorem Fly.back {S S' : Addr → Prop} {h₀ h h' : Heap} {e C : Addr} (x : Ext S h₀ S' h) (q : Fly h h' e C) : Fly h₀ h' e C := by
 obtain ⟨n, oe, vs, a, b, b', c, d, k⟩ := q
 refine ⟨x.none n, oe, vs, a, b, b', c, d, k.imp id ?_⟩
 rintro ⟨T, oT, ts, k1, k2, k3, k4⟩
 exact ⟨T, oT, ts, k1, k2, x.none k3, k4⟩
noncomputable def Out (G : Gd) (cx : Cx) (sc : Scope) (same : Bool) {α β : Type} (S : Addr → Prop) (s : Shared) (J : (Addr → Prop) → Heap → α → β → Prop) (Q : α → Shared → Prop) (E : Value → Shared → Prop) : Res β → Prop
 | .ok b ρ => ∀ a h' tk S', Rel G cx sc ρ S' h' → J S' h' a b → Ext S s.heap S' h' → (same = true → Qv cx.env s.heap h') → Q a { s with heap := h', toks := tk }
 | .exc C ρ => ∀ e h' tk S', Rel G cx sc ρ S' h' → Fly s.heap h' e C → Ext S s.heap S' h' → E (.ref e) { s with heap := h', toks := tk }
 | .stuck => False
noncomputable def Qq (G : Gd) (cx : Cx) (sc : Scope) (same : Bool) {α β : Type} (m : Sem α) (S : Addr → Prop) (s : Shared) (J : (Addr → Prop) → Heap → α → β → Prop) (r : Res β) : Prop :=
 ∀ Q E, Out G cx sc same S s J Q E r → wpAny G.M cx.A m Q E s
section
variable {G : Gd} {cx : Cx} {sc : Scope} {same : Bool} {α β γ δ : Type} {S : Addr → Prop} {s : Shared}
theorem Qq.bind {m : Sem α} {k : α → Sem γ} {J : (Addr → Prop) → Heap → α → β → Prop} {J' : (Addr → Prop) → Heap → γ → δ → Prop} {r : Res β} {g : β → AEnv → Res δ}
  (h1 : Qq G cx sc same m S s J r)
  (h2 : ∀ b ρ' a h' tk S', r = .ok b ρ' → Rel G cx sc ρ' S' h' → J S' h' a b → Ext S s.heap S' h' → (same = true → Qv cx.env s.heap h') → Qq G cx sc same (k a) S' { s with heap := h', toks := tk } J' (g b ρ')) :
  Qq G cx sc same (m >>= k) S s J' (r.bind g) := by
 intro Q E out
 refine wpAny_bind (h1 _ _ ?_)
 cases r with
 | stuck => exact out
 | exc C ρ => intro e h' tk S' rel fly x; exact out e h' tk S' rel fly x
 | ok b ρ =>
  intro a h' tk S' rel j x v
  refine h2 b ρ a h' tk S' rfl rel j x v _ _ ?_
  show Out G cx sc same S' _ J' Q E (g b ρ)
  cases hg : g b ρ with
  | stuck => rw [Res.bind, hg] at out; exact out
  | exc C ρ' =>
   rw [Res.bind, hg] at out
   intro e h₂ tk₂ S₂ rel₂ fly₂ x₂
   exact out e h₂ tk₂ S₂ rel₂ (fly₂.back x) (x.trans x₂)
  | ok c ρ' =>
   rw [Res.bind, hg] at out
   intro a₂ h₂ tk₂ S₂ rel₂ j₂ x₂ v₂
   exact out a₂ h₂ tk₂ S₂ rel₂ j₂ (x.trans x₂) fun q => (v q).trans (v₂ q)
theorem Qq.pure {a : α} {b : β} {ρ : AEnv} {J : (Addr → Prop) → Heap → α → β → Prop} (rel : Rel G cx sc ρ S s.heap) (j : J S s.heap a b) : Qq G cx sc same (pure a) S s J (.ok b ρ) :=
 fun _ _ out => wpAny_pure (out a s.heap s.toks S rel j (Ext.refl ..) fun _ => Qv.refl _ _)
theorem Qq.loose {m : Sem α} {J : (Addr → Prop) → Heap → α → β → Prop} {r : Res β} (h : Qq G cx sc true m S s J r) : Qq G cx sc same m S s J r := by
 intro Q E out
 refine h Q E ?_
 cases r with
 | stuck => exact out
 | exc C ρ => exact out
 | ok b ρ => intro a h' tk S' rel j x v; exact out a h' tk S' rel j x fun _ => v rfl
theorem Qq.standAt {k : Sem α} {pos : Pos} {J : (Addr → Prop) → Heap → α → β → Prop} {r : Res β} (h : Qq G cx sc same k S s J r) : Qq G cx sc same (do standAt pos; k) S s J r :=
 fun Q E out => wpAny_bind (wpAny_standAt (h Q E out))
theorem Qq.holding {k : Sem α} {vs : List Value} {J : (Addr → Prop) → Heap → α → β → Prop} {r : Res β} (h : Qq G cx sc same k S s J r) : Qq G cx sc same (holding vs k) S s J r :=
 fun Q E out => wpAny_holding (h Q E out)
end
noncomputable def EC (cx : Cx) (S : Addr → Prop) (h : Heap) (v : Value) (d : D) : Prop := ∃ a, v = .ref a ∧ ¬ S a ∧ XW S h a d ∧ cx.h₀.get? a = none ∧ ∀ x, Xb x = false → ¬ Var cx.env h x (.ref a)
noncomputable def Jp (cx : Cx) (S : Addr → Prop) (h : Heap) (v : Value) : T → Prop
 | .sh d => RV S h v d
 | .ow _ d => EC cx S h v d
noncomputable def TSt (cx : Cx) (S : Addr → Prop) (h : Heap) (v : Value) : T → Prop
 | .sh d => RV S h v d
 | .ow _ d => ∃ a, v = .ref a ∧ ¬ S a ∧ JZ S h a d ∧ cx.h₀.get? a = none ∧ (∀ x, Xb x = false → ¬ Var cx.env h x (.ref a)) ∧ ((∃ ks ds, d = .dict ks ds) → a ≠ cx.env.locals)
theorem Jp.st {cx : Cx} {S : Addr → Prop} {h : Heap} {v : Value} {t : T} (q : Jp cx S h v t) : TSt cx S h v t := by
 cases t with
 | sh d => exact q
 | ow m d =>
  obtain ⟨a, e, n, o, k, nv⟩ := q
  refine ⟨a, e, n, o.v, k, nv, ?_⟩
  rintro ⟨ks, ds, rfl⟩
  exact o.elim
theorem Rel.drop {G : Gd} {cx : Cx} {sc : Scope} {ρ : AEnv} {S : Addr → Prop} {h : Heap} {v : Value} {t : T} (r : Rel G cx sc ρ S h) (q : Jp cx S h v t) :
  ∃ S', Rel G cx sc ρ S' h ∧ RV S' h v t.val ∧ Ext S h S' h := by
 cases t with
 | sh d => exact ⟨S, r, q, .refl ..⟩
 | ow m d =>
  obtain ⟨a, rfl, ns, ow, n, nv⟩ := q
  obtain ⟨o, ho, hc, vs, k, hd⟩ := ow.cls
  have hl : a ≠ cx.env.locals := by
   rintro rfl
   obtain ⟨m', o', es, ep, e', hd', _⟩ := r.ns
   rw [ho] at e'; cases e'; rw [hd] at hd'; cases hd'
  refine ⟨_, r.grow ho n hl (r.notCell ho (by rw [hd]; intro v q; cases q)) nv, ?_, Ext.grow fun _ q => .inl q⟩
  unfold XW at ow
  split at ow
  ·obtain ⟨vs', n', e', rv⟩ := ow
   exact .list (.inr rfl) e' ⟨rfl, rfl, rfl⟩ rfl (rv.ext (Ext.grow fun _ q => .inl q))
  ·exact ow.elim
noncomputable def Vz (A : Around) (k : Nat) : Prop := A.depth + k ≤ 900 ∧ A.units + 8 * k ≤ 9000
theorem Vz.mono {A : Around} {k k' : Nat} (h : Vz A k) (hk : k' ≤ k) : Vz A k' := ⟨by have := h.1; omega, by have := h.2; omega⟩
structure CxOk (G : Gd) (cx : Cx) (sc : Scope) (k : Nat) : Prop where
 hsc : cx.env.scope = sc
 hk : sc.kind = .function
 hg : cx.env.globals = mainGlobals
 hb : cx.env.builtins = builtinsNs
 fr : cx.A.frames = some cx.fs
 top : ∃ env outer, cx.fs = env :: outer ∧ cx.env.frame = env.frame
 hd : G.quiet = true → cx.A.handled = none
 room : Vz cx.A k
 nodup : (Qf sc).Nodup
theorem CxOk.mono {G : Gd} {cx : Cx} {sc : Scope} {k k' : Nat} (h : CxOk G cx sc k) (hk : k' ≤ k) : CxOk G cx sc k' := { h with room := h.room.mono hk }
noncomputable def Sim (G : Gd) (k : Nat) (sc : Scope) (e : Expr) (f : AEnv → Res T) : Prop :=
 ∀ cx, CxOk G cx sc k → ∀ ρ S s, Rel G cx sc ρ S s.heap → Qq G cx sc true (eval e cx.env) S s (fun S' h' v t => Jp cx S' h' v t) (f ρ)
end Mine
end

section
set_option Elab.async false
set_option maxRecDepth 100000
namespace Mine
open PySem
inductive RB (S : Addr → Prop) (h : Heap) : Value → D → Prop
 | of {v : Value} {d : D} : RV S h v d → RB S h v d
 | own {a : Addr} {d : D} : XW S h a d → RB S h (.ref a) d
theorem RB.list {S : Addr → Prop} {h : Heap} {v : Value} {ds : List D} (q : RB S h v (.list ds)) : ∃ a o vs n, v = .ref a ∧ h.get? a = some o ∧ o.cls = .type "list" ∧ o.data = .seq vs n ∧ RVs S h vs.toList ds := by
 cases q with
 | of q => cases q with | list _ e hc hd r => exact ⟨_, _, _, _, rfl, e, hc.1, hd, r⟩
 | own q => obtain ⟨vs, n, e, r⟩ := q; exact ⟨_, _, _, _, rfl, e, rfl, rfl, r⟩
theorem RB.rv {S : Addr → Prop} {h : Heap} {v : Value} {d : D} (q : RB S h v d) (hd : ∀ ds, d ≠ .list ds) : RV S h v d := by
 cases q with
 | of q => exact q
 | own q =>
  unfold XW at q
  split at q
  ·exact absurd rfl (hd _)
  ·exact q.elim
theorem RB.any {S : Addr → Prop} {h : Heap} {v : Value} {d : D} (q : RB S h v d) : RV (fun _ => True) h v d := by
 cases q with
 | of q => exact q.ext (Ext.grow fun _ _ => trivial)
 | own q =>
  unfold XW at q
  split at q
  ·obtain ⟨vs, n, e, r⟩ := q; exact .list trivial e ⟨rfl, rfl, rfl⟩ rfl (r.ext (Ext.grow fun _ _ => trivial))
  ·exact q.elim
inductive Bv where
 | val (d : D)
 | var (i : Nat)
noncomputable def Bv.get (ρ : AEnv) : Bv → Option D
 | .val d => some d
 | .var i => match ρ[i]? with
  | some (some t) => t.get
  | _ => none
noncomputable def Z6 (cx : Cx) (sc : Scope) (S : Addr → Prop) (h : Heap) (v : Value) : Bv → Prop
 | .val d => RV S h v d
 | .var i => ∃ x, (Qf sc)[i]? = some x ∧ Var cx.env h x v
section
variable {G : Gd} {cx : Cx} {sc : Scope} {ρ : AEnv} {S S' : Addr → Prop} {h h' : Heap} {v : Value} {b : Bv} {d : D}
theorem Z6.ext (q : Z6 cx sc S h v b) (x : Ext S h S' h') (k : Qv cx.env h h') : Z6 cx sc S' h' v b := by
 cases b with
 | val d => exact RV.ext x q
 | var i => obtain ⟨y, hy, hv⟩ := q; exact ⟨y, hy, k y v hv⟩
set_option tactic.hygienic true in
theorem Z6.rb (q : Z6 cx sc S h v b) (r : Rel G cx sc ρ S h) (e : b.get ρ = some d) : RB S h v d := by
 cases b with
 | val d' => cases e; exact .of q
 | var i =>
  obtain ⟨y, hy, hv⟩ := q
  simp only [Bv.get] at e
  split at e
  ·rename_i t ht
   obtain ⟨w, hw, tv⟩ := r.vars i y t hy ht
   rw [Var.inj hv hw]
   cases t with
   | sh d => cases e; exact .of tv
   | ow m d =>
    obtain ⟨a, rfl, _, ow, _⟩ := tv
    cases d with
    | list ds => cases e; exact .own ow
    | _ => cases e
  ·cases e
theorem XY {x : Str} (ok : CxOk G cx sc 0) (hv : Var cx.env h x v) (hn : (x == ("__classdict__" : Str)) = false) {M : Model} {A : Around} {s : Shared} (hs : s.heap = h) {Q : Value → Shared → Prop} {E : Value → Shared → Prop} (hQ : Q v s) :
  wpAny M A (loadName cx.env x) Q E s := by
 subst hs
 have hk : cx.env.scope.kind = .function := by rw [ok.hsc]; exact ok.hk
 rcases hv with ⟨a, m, b, c⟩ | ⟨a, c, b, d⟩
 ·exact wpAny_loadName_local hk a b c hQ
 ·rcases a with a | a
  ·exact wpAny_loadName_cell hk a b d hQ
  ·exact wpAny_loadName_free hk a b d hQ hn
end
noncomputable def Qg (G : Gd) (k : Nat) (sc : Scope) (e : Expr) (f : AEnv → Res Bv) : Prop :=
 ∀ cx, CxOk G cx sc k → ∀ ρ S s, Rel G cx sc ρ S s.heap → Qq G cx sc true (eval e cx.env) S s (fun S' h' v b => Z6 cx sc S' h' v b) (f ρ)
noncomputable def Qc (f : AEnv → Res T) : AEnv → Res Bv := fun ρ => (f ρ).bind fun t ρ' => .ok (.val t.val) ρ'
theorem Qg.of {G : Gd} {k : Nat} {sc : Scope} {e : Expr} {f : AEnv → Res T} (h : Sim G k sc e f) : Qg G k sc e (Qc f) := by
 intro cx ok ρ S s r Q E out
 refine h cx ok ρ S s r Q E ?_
 unfold Qc at out
 cases hf : f ρ with
 | stuck => rw [hf] at out; exact out
 | exc C ρ' => rw [hf] at out; exact out
 | ok t ρ' =>
  rw [hf] at out
  intro v h' tk S' rel j x vs
  obtain ⟨S₂, rel₂, rv, x₂⟩ := rel.drop j
  exact out v h' tk S₂ rel₂ rv (x.trans x₂) vs
noncomputable def eOp (i : Nat) : AEnv → Res Bv := fun ρ => match ρ[i]? with
 | some (some _) => .ok (.var i) ρ
 | _ => .stuck
set_option tactic.hygienic true in
theorem O0 {G : Gd} {k : Nat} {sc : Scope} {x : Str} {pos : Pos} {i : Nat} (hx : (Qf sc)[i]? = some x) (hd : (x == ("__debug__" : Str)) = false) (hn : (x == ("__classdict__" : Str)) = false) :
  Qg G k sc (.Name x pos) (eOp i) := by
 intro cx ok ρ S s r Q E out
 unfold eOp at out
 split at out
 ·rename_i t ht
  obtain ⟨v, hv, tv⟩ := r.vars i x t hx ht
  exact wpAny_Name (XY (ok.mono (Nat.zero_le _)) hv hn rfl (out v s.heap s.toks S r ⟨x, hx, hv⟩ (Ext.refl ..) fun _ => Qv.refl _ _)) hd
 ·exact out.elim
theorem Rel.dropVar {G : Gd} {cx : Cx} {sc : Scope} {ρ : AEnv} {S : Addr → Prop} {h : Heap} {i : Nat} {x : Str} {ds : List D} {v : Value} (r : Rel G cx sc ρ S h) (hx : (Qf sc)[i]? = some x) (ht : ρ[i]? = some (some (.ow true (.list ds)))) (hv : Var cx.env h x v) :
  ∃ S', Rel G cx sc (ρ.set i (some (.sh (.list ds)))) S' h ∧ RV S' h v (.list ds) ∧ Ext S h S' h := by
 obtain ⟨w, hw, a, rfl, ns, ow, n⟩ := r.vars i x _ hx ht
 rw [Var.inj hv hw]
 have ow : XW S h a (.list ds) := ow
 generalize hdd : D.list ds = d at *
 obtain ⟨o, ho, hc, vs, nn, hd⟩ := ow.cls
 have hl : a ≠ cx.env.locals := by
  rintro rfl
  obtain ⟨m', o', es, ep, e', hd', _⟩ := r.ns
  rw [ho] at e'; cases e'; rw [hd] at hd'; cases hd'
 have rv : RV (fun b => S b ∨ b = a) h (.ref a) d := by
  unfold XW at ow
  split at ow
  ·obtain ⟨vs', n', e', rv⟩ := ow
   exact .list (.inr rfl) e' ⟨rfl, rfl, rfl⟩ rfl (rv.ext (Ext.grow fun _ q => .inl q))
  ·exact ow.elim
 refine ⟨fun b => S b ∨ b = a, ⟨r.base, r.keep, r.ff, r.ns, r.cells, fun b q => q.elim (r.sdom b) fun q => ⟨o, by rw [q]; exact ho⟩, fun b q => q.elim (r.sok b) fun q => .inr (by rw [q]; exact n rfl),
  fun q => q.elim r.sloc fun q => hl q.symm, fun x c e q => q.elim (r.scell x c e) (r.notCell ho (by rw [hd]; intro v q; cases q) x c e), r.live, fun j y m e hy hj => ?_, fun v q => let ⟨C, e⟩ := r.hok v q; ⟨C, e.ext (Ext.grow fun _ q => .inl q)⟩, fun j y t hy htj => ?_, fun j k y z m m' e e' u hy hz hj hk a b => ?_, r.dok.set fun _ _ _ q => by cases q⟩, rv, Ext.grow fun _ q => .inl q⟩
 ·have hji : i ≠ j := by rintro rfl; rw [List.getElem?_set_self (by rw [List.getElem?_eq_some_iff] at ht; exact ht.1)] at hj; cases hj
  rw [List.getElem?_set_ne hji] at hj
  exact r.clean j y m e hy hj
 ·by_cases hij : i = j
  ·subst hij
   have : (ρ.set i (some (T.sh d)))[i]? = some (some (T.sh d)) := by
    rw [List.getElem?_set_self]; rw [List.getElem?_eq_some_iff] at ht; exact ht.1
   rw [this] at htj; cases htj
   rw [hx] at hy; cases hy
   exact ⟨_, hw, rv⟩
  ·rw [List.getElem?_set_ne hij] at htj
   obtain ⟨u, hu, tv⟩ := r.vars j y t hy htj
   refine ⟨u, hu, ?_⟩
   cases t with
   | sh e => exact RV.ext (Ext.grow fun _ q => .inl q) tv
   | ow m e =>
    obtain ⟨b, rfl, nb, owb, n'⟩ := tv
    refine ⟨b, rfl, fun q => q.elim nb fun q => ?_, owb.ext (Ext.grow fun _ q => .inl q) (fun o e => ⟨o.slots, e, fun _ => rfl⟩), n'⟩
    subst q
    exact hij (r.inj i j x y true m d e (.ref b) hx hy ht htj hw hu)
 ·have hji : i ≠ j := by rintro rfl; rw [List.getElem?_set_self (by rw [List.getElem?_eq_some_iff] at ht; exact ht.1)] at hj; cases hj
  have hki : i ≠ k := by rintro rfl; rw [List.getElem?_set_self (by rw [List.getElem?_eq_some_iff] at ht; exact ht.1)] at hk; cases hk
  rw [List.getElem?_set_ne hji] at hj
  rw [List.getElem?_set_ne hki] at hk
  exact r.inj j k y z m m' e e' u hy hz hj hk a b
noncomputable def XJ (i : Nat) : AEnv → Res T := fun ρ => match ρ[i]? with
 | some (some (.sh d)) => .ok (.sh d) ρ
 | some (some (.ow true (.list ds))) => .ok (.sh (.list ds)) (ρ.set i (some (.sh (.list ds))))
 | _ => .stuck
set_option tactic.hygienic true in
theorem DJ {G : Gd} {k : Nat} {sc : Scope} {x : Str} {pos : Pos} {i : Nat} (hx : (Qf sc)[i]? = some x) (hd : (x == ("__debug__" : Str)) = false) (hn : (x == ("__classdict__" : Str)) = false) :
  Sim G k sc (.Name x pos) (XJ i) := by
 intro cx ok ρ S s r Q E out
 unfold XJ at out
 split at out
 ·rename_i d ht
  obtain ⟨v, hv, tv⟩ := r.vars i x _ hx ht
  exact wpAny_Name (XY (ok.mono (Nat.zero_le _)) hv hn rfl (out v s.heap s.toks S r tv (Ext.refl ..) fun _ => Qv.refl _ _)) hd
 ·rename_i d ht
  obtain ⟨v, hv, tv⟩ := r.vars i x _ hx ht
  obtain ⟨S', r', rv, x'⟩ := r.dropVar hx ht hv
  exact wpAny_Name (XY (ok.mono (Nat.zero_le _)) hv hn rfl (out v s.heap s.toks S' r' rv x' fun _ => Qv.refl _ _)) hd
 ·exact out.elim
noncomputable def Qd (d : D) : AEnv → Res T := fun ρ => .ok (.sh d) ρ
section
variable {G : Gd} {k : Nat} {sc : Scope} {pos : Pos} {kk : Nat}
theorem Ud : Sim G k sc (.Constant .none kk pos) (Qd .none) := fun _ _ _ _ s r _ _ out => wpAny_Constant_none (out _ s.heap s.toks _ r .none (Ext.refl ..) fun _ => Qv.refl _ _)
theorem Z8 {b : Bool} : Sim G k sc (.Constant (.bool b) kk pos) (Qd (.bool b)) := fun _ _ _ _ s r _ _ out => wpAny_Constant_bool (out _ s.heap s.toks _ r (.bool b) (Ext.refl ..) fun _ => Qv.refl _ _)
theorem Qi {i : Int} : Sim G k sc (.Constant (.int i) kk pos) (Qd (.int i)) := fun _ _ _ _ s r _ _ out => wpAny_Constant_int (out _ s.heap _ _ r (.int i _) (Ext.refl ..) fun _ => Qv.refl _ _)
theorem Zn {x : Str} : Sim G k sc (.Constant (.str x) kk pos) (Qd (.str x)) := fun _ _ _ _ s r _ _ out => wpAny_Constant_str (out _ s.heap _ _ r (.str x _) (Ext.refl ..) fun _ => Qv.refl _ _)
theorem Cz {x : Str} {v : Value} (hG : G.Ok) (hx : sc.names.lookup x = some .globalImplicit) (hv : G.mg x = some v) (hl : ∀ a, v = .ref a → ∃ o, G.B.get? a = some o) (hd : (x == ("__debug__" : Str)) = false) : Sim G k sc (.Name x pos) (Qd (.glob v)) := by
 intro cx ok ρ S s r Q E out
 refine Calls.Name_function_global (by rw [ok.hsc]; exact ok.hk) (by unfold Env.kindOf; rw [ok.hsc]; exact hx) (Calls.loadGlobal_global (mg := G.mg) (by rw [ok.hg]; exact hG.g.keeps r.base) hv ?_) hd
 exact out _ s.heap s.toks _ r (.glob v fun a e => let ⟨o, e'⟩ := hl a e; ⟨o, r.base _ _ e'⟩) (Ext.refl ..) fun _ => Qv.refl _ _
theorem Bp {x : Str} {v : Value} (hG : G.Ok) (hx : sc.names.lookup x = some .globalImplicit) (hm : G.mg x = none) (hv : G.mb x = some v) (hl : ∀ a, v ≠ .ref a) (hd : (x == ("__debug__" : Str)) = false) : Sim G k sc (.Name x pos) (Qd (.glob v)) := by
 intro cx ok ρ S s r Q E out
 refine Calls.Name_function_global (by rw [ok.hsc]; exact ok.hk) (by unfold Env.kindOf; rw [ok.hsc]; exact hx) (Calls.loadGlobal_builtin (mg := G.mg) (mb := G.mb) (by rw [ok.hg]; exact hG.g.keeps r.base) hm (by rw [ok.hb]; exact hG.b.keeps r.base) hv ?_) hd
 exact out _ s.heap s.toks _ r (.glob v fun a e => (hl a e).elim) (Ext.refl ..) fun _ => Qv.refl _ _
end
end Mine
end

section
set_option Elab.async false
set_option maxRecDepth 100000
namespace Mine
open PySem
noncomputable def Op1 (G : Gd) (m : Value → Sem Value) (F : D → Option T) : Prop :=
 ∀ cx sc, CxOk G cx sc 0 → ∀ ρ S s v x t, Rel G cx sc ρ S s.heap → RB S s.heap v x → F x = some t → Qq G cx sc true (m v) S s (fun S' h' v t => Jp cx S' h' v t) (.ok t ρ)
noncomputable def Op2 (G : Gd) (m : Value → Value → Sem Value) (F : D → D → Option T) : Prop :=
 ∀ cx sc, CxOk G cx sc 0 → ∀ ρ S s v w x y t, Rel G cx sc ρ S s.heap → RB S s.heap v x → RB S s.heap w y → F x y = some t → Qq G cx sc true (m v w) S s (fun S' h' v t => Jp cx S' h' v t) (.ok t ρ)
noncomputable def U9 (F : D → Option T) (f : AEnv → Res Bv) : AEnv → Res T := fun ρ => (f ρ).bind fun a ρ₁ => match a.get ρ₁ with
 | some x => (match F x with | some t => .ok t ρ₁ | none => .stuck)
 | none => .stuck
noncomputable def Qp (F : D → D → Option T) (f g : AEnv → Res Bv) : AEnv → Res T := fun ρ => (f ρ).bind fun a ρ₁ => (g ρ₁).bind fun b ρ₂ => match a.get ρ₂, b.get ρ₂ with
 | some x, some y => (match F x y with | some t => .ok t ρ₂ | none => .stuck)
 | _, _ => .stuck
section
variable {G : Gd} {cx : Cx} {sc : Scope} {same : Bool} {α β : Type} {S : Addr → Prop} {s : Shared}
theorem Qq.stuck {m : Sem α} {J : (Addr → Prop) → Heap → α → β → Prop} : Qq G cx sc same m S s J .stuck := fun _ _ out => out.elim
theorem Qq.wp {m m' : Sem α} {J : (Addr → Prop) → Heap → α → β → Prop} {r : Res β} (h : Qq G cx sc same m S s J r) (k : ∀ Q E, wpAny G.M cx.A m Q E s → wpAny G.M cx.A m' Q E s) : Qq G cx sc same m' S s J r :=
 fun Q E out => k Q E (h Q E out)
theorem Qq.operate {m : Sem Value} {vs : List Value} {J : (Addr → Prop) → Heap → Value → β → Prop} {r : Res β} (h : Qq G cx sc same m S s J r) : Qq G cx sc same (operate vs m) S s J r :=
 h.wp fun _ _ h => wpAny_operating h
end
set_option tactic.hygienic true in
theorem WA {G : Gd} {cx : Cx} {sc : Scope} {γ δ : Type} {S : Addr → Prop} {s : Shared} {l r : Expr} {f g : AEnv → Res Bv} {k : Nat} {ρ : AEnv} {n : Value → Value → Sem γ} {J : (Addr → Prop) → Heap → γ → δ → Prop} {K : D → D → AEnv → Res δ}
  (hl : Qg G k sc l f) (hr : Qg G k sc r g) (ok : CxOk G cx sc k) (rel : Rel G cx sc ρ S s.heap)
  (h : ∀ ρ' S' h' tk v w x y, Rel G cx sc ρ' S' h' → RB S' h' v x → RB S' h' w y → Qq G cx sc true (n v w) S' { s with heap := h', toks := tk } J (K x y ρ'))  :
  Qq G cx sc true (do let a ← eval l cx.env; let b ← holding [a] (eval r cx.env); n a b) S s J ((f ρ).bind fun a ρ₁ => (g ρ₁).bind fun b ρ₂ => match a.get ρ₂, b.get ρ₂ with
   | some x, some y => K x y ρ₂
   | _, _ => .stuck) := by
 refine Qq.bind (hl cx ok ρ S s rel) fun a ρ₁ va h₁ t₁ S₁ _ rel₁ ja x₁ v₁ => ?_
 refine Qq.bind (Qq.holding (hr cx ok ρ₁ S₁ { s with heap := h₁, toks := t₁ } rel₁)) fun b ρ₂ vb h₂ t₂ S₂ _ rel₂ jb x₂ v₂ => ?_
 have ja₂ : Z6 cx sc S₂ h₂ va a := Z6.ext ja x₂ (v₂ rfl)
 split
 ·rename_i x y hx hy
  exact h ρ₂ S₂ h₂ t₂ va vb x y rel₂ (ja₂.rb rel₂ hx) (Z6.rb jb rel₂ hy)
 ·exact Qq.stuck
set_option tactic.hygienic true in
theorem Ql {G : Gd} {k : Nat} {sc : Scope} {l r : Expr} {op : Operator} {pos : Pos} {f g : AEnv → Res Bv} {F : D → D → Option T} (hl : Qg G k sc l f) (hr : Qg G k sc r g) (hop : Op2 G (binaryOp op) F) :
  Sim G k sc (.BinOp l op r pos) (Qp F f g) := by
 intro cx ok ρ S s rel
 show Qq G cx sc true (do let a ← eval l cx.env; let b ← holding [a] (eval r cx.env); standAt pos; operate [a, b] (binaryOp op a b)) S s _ _
 refine WA (K := fun x y ρ₂ => match F x y with | some t => .ok t ρ₂ | none => .stuck) hl hr ok rel fun ρ' S' h' tk v w x y rel' rx ry => ?_
 refine Qq.standAt (Qq.operate ?_)
 split
 ·rename_i t ht
  exact hop cx sc (ok.mono (Nat.zero_le _)) ρ' S' { s with heap := h', toks := tk } v w x y t rel' rx ry ht
 ·exact Qq.stuck
set_option tactic.hygienic true in
theorem VB {G : Gd} {k : Nat} {sc : Scope} {l r : Expr} {op : CmpOp} {pos : Pos} {f g : AEnv → Res Bv} {F : D → D → Option T} (hl : Qg G k sc l f) (hr : Qg G k sc r g) (hop : Op2 G (compareOp op) F)
  (hm : behindInMarks op r = false) : Sim G k sc (.Compare l [op] [r] pos) (Qp F f g) := by
 intro cx ok ρ S s rel
 rw [eval_Compare1, markedBehindIn_of_false hm]
 refine WA (K := fun x y ρ₂ => match F x y with | some t => .ok t ρ₂ | none => .stuck) hl hr ok rel fun ρ' S' h' tk v w x y rel' rx ry => ?_
 refine Qq.standAt (Qq.operate ?_)
 split
 ·rename_i t ht
  exact hop cx sc (ok.mono (Nat.zero_le _)) ρ' S' { s with heap := h', toks := tk } v w x y t rel' rx ry ht
 ·exact Qq.stuck
set_option tactic.hygienic true in
theorem Zw {G : Gd} {k : Nat} {sc : Scope} {x : Expr} {op : UnaryOp} {pos : Pos} {f : AEnv → Res Bv} {F : D → Option T} (hx : Qg G k sc x f) (hop : Op1 G (unaryOp op) F) : Sim G k sc (.UnaryOp op x pos) (U9 F f) := by
 intro cx ok ρ S s rel
 show Qq G cx sc true (do let v ← eval x cx.env; standAt pos; holding [v] (unaryOp op v)) S s _ _
 refine Qq.bind (hx cx ok ρ S s rel) fun a ρ₁ va h₁ t₁ S₁ _ rel₁ ja x₁ v₁ => ?_
 refine Qq.standAt (Qq.holding ?_)
 split
 ·rename_i d hd
  split
  ·rename_i t ht
   exact hop cx sc (ok.mono (Nat.zero_le _)) ρ₁ S₁ { s with heap := h₁, toks := t₁ } va d t rel₁ (Z6.rb ja rel₁ hd) ht
  ·exact Qq.stuck
 ·exact Qq.stuck
noncomputable def small (b : Int) : Bool := decide (b.natAbs < 2 ^ 63)
noncomputable def YO : D → D → Option T
 | .int a, .int b => some (.sh (.int (a - b)))
 | _, _ => none
noncomputable def FM : D → D → Option T
 | .int a, .int b => if small a || small b then some (.sh (.int (a * b))) else none
 | _, _ => none
noncomputable def U3 : D → D → Option T
 | .int a, .int b => if b ≠ 0 ∧ b.natAbs < 1073741824 then some (.sh (.int (a.fdiv b))) else none
 | _, _ => none
noncomputable def Yi : D → D → Option T
 | .int a, .int b => if b ≠ 0 then some (.sh (.int (a.fmod b))) else none
 | _, _ => none
noncomputable def JC : D → Option T
 | .int a => some (.sh (.int (-a)))
 | _ => none
theorem RB.int {S : Addr → Prop} {h : Heap} {v : Value} {i : Int} (q : RB S h v (.int i)) : ∃ t, v = .int i t := by
 have := q.rv fun _ e => by cases e
 cases this; exact ⟨_, rfl⟩
theorem RB.bool {S : Addr → Prop} {h : Heap} {v : Value} {i : Bool} (q : RB S h v (.bool i)) : v = .bool i := by
 have := q.rv fun _ e => by cases e
 cases this; rfl
theorem RB.str {S : Addr → Prop} {h : Heap} {v : Value} {i : Str} (q : RB S h v (.str i)) : ∃ t, v = .str i t := by
 have := q.rv fun _ e => by cases e
 cases this; exact ⟨_, rfl⟩
theorem RB.none {S : Addr → Prop} {h : Heap} {v : Value} (q : RB S h v .none) : v = .none := by
 have := q.rv fun _ e => by cases e
 cases this; rfl
theorem RB.tup {S : Addr → Prop} {h : Heap} {v : Value} {ds : List D} (q : RB S h v (.tup ds)) : ∃ a o vs n, v = .ref a ∧ h.get? a = some o ∧ o.cls = .type "tuple" ∧ o.data = .seq vs n ∧ RVs S h vs.toList ds := by
 have := q.rv fun _ e => by cases e
 cases this with | tup e hc hd r => exact ⟨_, _, _, _, rfl, e, hc, hd, r⟩
theorem Zk {G : Gd} {cx : Cx} {sc : Scope} {ρ : AEnv} {S : Addr → Prop} {s : Shared} {Q : Value → Shared → Prop} {E : Value → Shared → Prop} {d : D} (out : Out G cx sc true S s (fun S' h' v t => Jp cx S' h' v t) Q E (.ok (.sh d) ρ))
  (rel : Rel G cx sc ρ S s.heap) {v : Value} {tk : Nat} (q : RV S s.heap v d) : Q v { s with toks := tk } := out v s.heap tk S rel q (Ext.refl ..) fun _ => Qv.refl _ _
section
variable {G : Gd}
theorem Wd : Op2 G (binaryOp .Sub) YO := by
 intro cx sc ok ρ S s v w x y t rel rx ry e Q E out
 unfold YO at e; split at e
 ·obtain ⟨_, rfl⟩ := rx.int; obtain ⟨_, rfl⟩ := ry.int; cases e
  exact PySem.P.sub_int (Zk out rel (.int _ _))
 ·cases e
theorem K9 {b : Int} (h : small b = true) : Builtin.Int.intBits b ≤ 64 := by
 unfold small at h; simp only [decide_eq_true_eq] at h
 exact intBits_le_64 (by omega) (by omega)
set_option tactic.hygienic true in
theorem FJ : Op2 G (binaryOp .Mult) FM := by
 intro cx sc ok ρ S s v w x y t rel rx ry e Q E out
 unfold FM at e; split at e
 ·obtain ⟨_, rfl⟩ := rx.int; obtain ⟨_, rfl⟩ := ry.int
  split at e
  ·rename_i hs
   cases e
   refine PySem.P.mul_int (Zk out rel (.int _ _)) ?_
   rcases Bool.or_eq_true_iff.mp hs with q | q
   ·exact .of_left (K9 q)
   ·exact .of_right (K9 q)
  ·cases e
 ·cases e
set_option tactic.hygienic true in
theorem U6 : Op2 G (binaryOp .FloorDiv) U3 := by
 intro cx sc ok ρ S s v w x y t rel rx ry e Q E out
 unfold U3 at e; split at e
 ·obtain ⟨_, rfl⟩ := rx.int; obtain ⟨_, rfl⟩ := ry.int
  split at e
  ·rename_i hs
   cases e
   exact PyProof.Rows.floordiv_int hs.1 (Zk out rel (.int _ _)) (.inl (PyProof.noPylong_small hs.2))
  ·cases e
 ·cases e
set_option tactic.hygienic true in
theorem Yc : Op2 G (binaryOp .Mod) Yi := by
 intro cx sc ok ρ S s v w x y t rel rx ry e Q E out
 unfold Yi at e; split at e
 ·obtain ⟨_, rfl⟩ := rx.int; obtain ⟨_, rfl⟩ := ry.int
  split at e
  ·rename_i hs
   cases e
   exact PyProof.Rows.mod_int' hs (Zk out rel (.int _ _))
  ·cases e
 ·cases e
theorem W5 : Op1 G (unaryOp .USub) JC := by
 intro cx sc ok ρ S s v x t rel rx e Q E out
 unfold JC at e; split at e
 ·obtain ⟨_, rfl⟩ := rx.int; cases e
  exact PySem.P.neg_int (Zk out rel (.int _ _))
 ·cases e
noncomputable def ltI : D → D → Option T
 | .int a, .int b => some (.sh (.bool (decide (a < b))))
 | _, _ => none
noncomputable def leI : D → D → Option T
 | .int a, .int b => some (.sh (.bool (decide (a ≤ b))))
 | _, _ => none
noncomputable def gtI : D → D → Option T
 | .int a, .int b => some (.sh (.bool (decide (b < a))))
 | _, _ => none
theorem CO : Op2 G (compareOp .Lt) ltI := by
 intro cx sc ok ρ S s v w x y t rel rx ry e Q E out
 unfold ltI at e; split at e
 ·obtain ⟨_, rfl⟩ := rx.int; obtain ⟨_, rfl⟩ := ry.int; cases e
  exact PySem.P.lt_int (Zk out rel (.bool _))
 ·cases e
theorem JW : Op2 G (compareOp .LtE) leI := by
 intro cx sc ok ρ S s v w x y t rel rx ry e Q E out
 unfold leI at e; split at e
 ·obtain ⟨_, rfl⟩ := rx.int; obtain ⟨_, rfl⟩ := ry.int; cases e
  exact PySem.P.le_int (Zk out rel (.bool _))
 ·cases e
theorem Fm : Op2 G (compareOp .Gt) gtI := by
 intro cx sc ok ρ S s v w x y t rel rx ry e Q E out
 unfold gtI at e; split at e
 ·obtain ⟨_, rfl⟩ := rx.int; obtain ⟨_, rfl⟩ := ry.int; cases e
  exact PySem.P.gt_int (Zk out rel (.bool _))
 ·cases e
end
mutual
noncomputable def Wx : D → Option PyData
 | .none => some .none
 | .bool b => some (.bool b)
 | .int i => some (.int i)
 | .str x => some (.str x)
 | .tup ds => (Yv ds).map .tuple
 | .list ds => (Yv ds).map .list
 | _ => none
noncomputable def Yv : List D → Option (List PyData)
 | [] => some []
 | d :: ds => match Wx d, Yv ds with
  | some p, some ps => some (p :: ps)
  | _, _ => none
end
theorem Va {h : Heap} {vs : List Value} {ds : List D} {p : PyData} {k : List PyData → PyData} (r : ∀ {ps : List PyData}, Yv ds = some ps → ∃ as, ReadsAll h vs ps as) (e : (Yv ds).map k = some p) : ∃ ps as, p = k ps ∧ ReadsAll h vs ps as := by
 cases hq : Yv ds with
 | none => rw [hq] at e; cases e
 | some ps =>
  rw [hq] at e; cases e
  obtain ⟨as, q⟩ := r hq
  exact ⟨ps, as, rfl, q⟩
theorem RV.reads {S : Addr → Prop} {h : Heap} {v : Value} {d : D} (q : RV S h v d) : ∀ {p : PyData}, Wx d = some p → ∃ as, Reads h v p as :=
 RV.rec (motive_1 := fun v d _ => ∀ {p : PyData}, Wx d = some p → ∃ as, Reads h v p as) (motive_2 := fun vs ds _ => ∀ {ps : List PyData}, Yv ds = some ps → ∃ as, ReadsAll h vs ps as)
  (fun e => by cases e; exact ⟨_, .none⟩) (fun b _ e => by cases e; exact ⟨_, .bool b⟩) (fun i t _ e => by cases e; exact ⟨_, .int i t⟩) (fun x t _ e => by cases e; exact ⟨_, .str x t⟩)
  (fun a b c _ r _ e => by obtain ⟨ps, as, rfl, q⟩ := Va (k := .tuple) r e; exact ⟨as, .tuple a b c q⟩)
  (fun _ a b c _ r _ e => by obtain ⟨ps, as, rfl, q⟩ := Va (k := .list) r e; exact ⟨_, .list a b.1 c q⟩)
  (fun _ _ e => by cases e) (fun _ _ _ _ _ _ e => by cases e) (fun _ _ _ e => by cases e) (fun _ _ _ _ _ _ _ _ e => by cases e)
  (fun e => by cases e; exact ⟨_, .nil⟩)
  (fun {v d vs ds} _ _ a b _ e => by
   have e : (match Wx d, Yv ds with | some p, some ps => some (p :: ps) | _, _ => Option.none) = some _ := e
   cases hp : Wx d with
   | none => rw [hp] at e; cases e
   | some p =>
    cases hq : Yv ds with
    | none => rw [hp, hq] at e; cases e
    | some ps =>
     rw [hp, hq] at e; cases e
     obtain ⟨as, q'⟩ := a hp
     obtain ⟨bs, r'⟩ := b hq
     exact ⟨_, .cons q' r'⟩) q
noncomputable def eqD (x y : D) : Option Bool := match Wx x, Wx y with
 | some p, some q => if SeqAt.shaped p && SeqAt.shaped q then some (PyData.eqv p q) else none
 | _, _ => none
noncomputable def eqI (x y : D) : Option T := (eqD x y).map fun b => .sh (.bool b)
noncomputable def neI (x y : D) : Option T := (eqD x y).map fun b => .sh (.bool !b)
set_option tactic.hygienic true in
theorem Vj {S : Addr → Prop} {h : Heap} {v w : Value} {x y : D} {b : Bool} (rx : RB S h v x) (ry : RB S h w y) (e : eqD x y = some b) :
  ∃ p q as bs, Reads h v p as ∧ Reads h w q bs ∧ SeqAt.shaped p = true ∧ SeqAt.shaped q = true ∧ b = PyData.eqv p q := by
 unfold eqD at e
 split at e
 ·rename_i p q hp hq
  split at e
  ·rename_i hs
   obtain ⟨h1, h2⟩ := Bool.and_eq_true_iff.mp hs
   obtain ⟨as, ra⟩ := RV.reads rx.any hp
   obtain ⟨bs, rb⟩ := RV.reads ry.any hq
   exact ⟨p, q, as, bs, ra, rb, h1, h2, (Option.some.inj e).symm⟩
  ·cases e
 ·cases e
theorem Yq {G : Gd} : Op2 G (compareOp .Eq) eqI := by
 intro cx sc ok ρ S s v w x y t rel rx ry e Q E out
 unfold eqI at e
 obtain ⟨b, hb, rfl⟩ := Option.map_eq_some_iff.mp e
 obtain ⟨p, q, as, bs, ra, rb, h1, h2, rfl⟩ := Vj rx ry hb
 exact PyProof.Rows.eq_dataH ra rb h1 h2 (by have := ok.room.2; unfold cLine; omega) (Zk out rel (tk := s.toks) (.bool _))
theorem Wl {G : Gd} : Op2 G (compareOp .NotEq) neI := by
 intro cx sc ok ρ S s v w x y t rel rx ry e Q E out
 unfold neI at e
 obtain ⟨b, hb, rfl⟩ := Option.map_eq_some_iff.mp e
 obtain ⟨p, q, as, bs, ra, rb, h1, h2, rfl⟩ := Vj rx ry hb
 exact PyProof.Rows.ne_dataH ra rb h1 h2 (by have := ok.room.2; unfold cLine; omega) (Zk out rel (tk := s.toks) (.bool _))
noncomputable def isD (x : D) : D → Option Bool
 | .none => (match x with | .none => some true | .glob _ => none | _ => some false)
 | .bool c => (match x with | .bool b => some (b == c) | .glob _ => none | _ => some false)
 | _ => none
noncomputable def isI (x y : D) : Option T := (isD x y).map fun b => .sh (.bool b)
noncomputable def J5 (x y : D) : Option T := (isD x y).map fun b => .sh (.bool !b)
set_option tactic.hygienic true in
theorem BA {S : Addr → Prop} {h : Heap} {v w : Value} {x y : D} {b : Bool} (rx : RB S h v x) (ry : RB S h w y) (e : isD x y = some b) : isSame v w = pure b := by
 have rx := rx.any
 unfold isD at e
 split at e
 ·rw [ry.none]
  cases rx <;> first | (cases e; rfl) | (cases e; done)
 ·rename_i c
  rw [ry.bool]
  cases rx with
  | bool b' => simp only [Option.some.injEq] at e; subst e; cases b' <;> cases c <;> rfl
  | _ => first | (cases e; rfl) | (cases e; done)
 ·cases e
theorem F1 {G : Gd} : Op2 G (compareOp .Is) isI := by
 intro cx sc ok ρ S s v w x y t rel rx ry e Q E out
 unfold isI at e
 obtain ⟨b, hb, rfl⟩ := Option.map_eq_some_iff.mp e
 show wpAny G.M cx.A (do return .bool (← isSame v w)) Q E s
 rw [BA rx ry hb]
 exact wpAny_bind (wpAny_pure (wpAny_pure (Zk out rel (tk := s.toks) (.bool _))))
theorem Ba {G : Gd} : Op2 G (compareOp .IsNot) J5 := by
 intro cx sc ok ρ S s v w x y t rel rx ry e Q E out
 unfold J5 at e
 obtain ⟨b, hb, rfl⟩ := Option.map_eq_some_iff.mp e
 show wpAny G.M cx.A (do return .bool (!(← isSame v w))) Q E s
 rw [BA rx ry hb]
 exact wpAny_bind (wpAny_pure (wpAny_pure (Zk out rel (tk := s.toks) (.bool _))))
end Mine
end

section
set_option Elab.async false
set_option maxRecDepth 100000
namespace Mine
open PySem
section
variable {G : Gd} {cx : Cx} {sc : Scope} {ρ : AEnv} {S : Addr → Prop} {s : Shared}
theorem Rel.push (r : Rel G cx sc ρ S s.heap) (o : Obj) : Rel G cx sc ρ S (s.heap.push o) := r.keeps fun _ _ e => Heap.get?_push_of_some _ e
theorem Q8 {S : Addr → Prop} {h : Heap} (o : Obj) : Ext S h S (h.push o) := Ext.of_keeps fun _ _ e => Heap.get?_push_of_some _ e
theorem XD {h : Heap} (o : Obj) : Kp h (h.push o) := Kp.of_keeps fun _ _ e => Heap.get?_push_of_some _ e
theorem OX {vs : List Value} {ds : List D} (r : Rel G cx sc ρ S s.heap) (q : RVs S s.heap vs ds) (hl : ds.length ≤ 1000000) :
  Qq G cx sc true (newTuple vs) S s (fun S' h' v t => Jp cx S' h' v t) (.ok (.sh (.tup ds)) ρ) := by
 intro Q E out
 refine wpAny_newObj_type (out _ _ s.toks S (r.push _) ?_ (Q8 _) fun _ => r.same (XD _)) ?_
 ·exact .tup (Heap.get?_push_size _ rfl) rfl rfl (by simpa using q.ext (Q8 _))
 ·show vs.toArray.size ≤ sizeLine
  rw [List.size_toArray, q.length, sizeLine_eq]; omega
theorem X2 {h' : Heap} {a : Addr} {vs : Array Value} {n : Nat} {ds : List D} (r : Rel G cx sc ρ S s.heap) (k : Kp s.heap h') (e : s.heap.get? a = none) (e' : h'.get? a = some { cls := .type "list", data := .seq vs n }) (q : RVs S h' vs.toList ds) :
  EC cx S h' (.ref a) (.list ds) := by
 refine ⟨a, rfl, fun q => ?_, ⟨vs, n, e', q⟩, r.keep.none e, fun x hd q => ?_⟩
 ·obtain ⟨o, e₁⟩ := r.sdom _ q; rw [e] at e₁; cases e₁
 ·obtain ⟨o, e₁⟩ := r.live x _ hd (Var.of_kp k r.ns r.cells q); rw [e] at e₁; cases e₁
theorem VD {vs : List Value} {ds : List D} (r : Rel G cx sc ρ S s.heap) (q : RVs S s.heap vs ds) (hl : ds.length ≤ 1000000) :
  Qq G cx sc true (newList vs) S s (fun S' h' v t => Jp cx S' h' v t) (.ok (.ow true (.list ds)) ρ) := by
 intro Q E out
 refine wpAny_newObj_type (out _ _ s.toks S (r.push _) ?_ (Q8 _) fun _ => r.same (XD _)) ?_
 ·exact X2 r (XD _) (Heap.get?_none_of_le (Nat.le_refl _)) (Heap.get?_push_size _ rfl) (by simpa using q.ext (Q8 _))
 ·show vs.toArray.size ≤ sizeLine
  rw [List.size_toArray, q.length, sizeLine_eq]; omega
end
noncomputable def Oa (G : Gd) (k : Nat) (sc : Scope) (es : List Expr) (f : AEnv → Res (List D)) : Prop :=
 ∀ pos cx, CxOk G cx sc k → ∀ ρ S s, Rel G cx sc ρ S s.heap → Qq G cx sc true (spliced (backTo pos (starEach es cx.env))) S s (fun S' h' vs ds => RVs S' h' vs ds) (f ρ)
noncomputable def Zp : AEnv → Res (List D) := fun ρ => .ok [] ρ
noncomputable def QI (f : AEnv → Res T) (g : AEnv → Res (List D)) : AEnv → Res (List D) := fun ρ => (f ρ).bind fun t ρ₁ => (g ρ₁).bind fun ds ρ₂ => .ok (t.val :: ds) ρ₂
noncomputable def QU : Expr → Bool
 | .Starred .. => false
 | _ => true
theorem Jk {e : Expr} {rest : List Expr} {env : Env} (h : QU e = true) : starEach (e :: rest) env = (false, eval e env) :: starEach rest env := by
 cases e <;> first | rfl | cases h
section
variable {G : Gd} {k : Nat} {sc : Scope}
theorem QO : Oa G k sc [] Zp := fun pos cx ok ρ S s r => Qq.pure r .nil
theorem ZP {pos : Pos} {e : Expr} {rest : List Expr} {env : Env} (h : QU e = true) : spliced (backTo pos (starEach (e :: rest) env)) = (do
  let v ← eval e env
  let here ← (pure [v] : Sem (List Value))
  return here ++ (← holding here (spliced (backTo pos (starEach rest env))))) := by
 rw [Jk h]; rfl
theorem Qq.shared {cx : Cx} {S : Addr → Prop} {s : Shared} {m : Sem Value} {r : Res T} (h : Qq G cx sc true m S s (fun S' h' v t => Jp cx S' h' v t) r) :
  Qq G cx sc true m S s (fun S' h' v d => RV S' h' v d) (r.bind fun t ρ => .ok t.val ρ) := by
 intro Q E out
 refine h Q E ?_
 cases r with
 | stuck => exact out
 | exc C ρ => exact out
 | ok t ρ =>
  intro v h' tk S' rel j x vs
  obtain ⟨S₂, rel₂, rv, x₂⟩ := rel.drop j
  exact out v h' tk S₂ rel₂ rv (x.trans x₂) vs
theorem ET {α β γ : Type} (r : Res α) (f : α → β) (g : β → AEnv → Res γ) : (r.bind fun a ρ => .ok (f a) ρ).bind g = r.bind fun a ρ => g (f a) ρ := by
 cases r <;> rfl
theorem Cc {e : Expr} {rest : List Expr} {f : AEnv → Res T} {g : AEnv → Res (List D)} (he : Sim G k sc e f) (hr : Oa G k sc rest g) (hs : QU e = true) : Oa G k sc (e :: rest) (QI f g) := by
 intro pos cx ok ρ S s r
 rw [ZP hs]
 unfold QI
 rw [← ET (f ρ) T.val (fun d ρ₁ => (g ρ₁).bind fun ds ρ₂ => .ok (d :: ds) ρ₂)]
 refine Qq.bind (he cx ok ρ S s r).shared fun d ρ₁ v h₁ t₁ S₁ _ r₁ j₁ x₁ v₁ => ?_
 intro Q E out
 refine wpAny_bind (wpAny_pure ?_)
 refine (Qq.bind (J' := fun S' h' vs ds => RVs S' h' vs ds) (Qq.holding (hr pos cx ok ρ₁ S₁ { s with heap := h₁, toks := t₁ } r₁)) fun ds ρ₂ vs h₂ t₂ S₂ _ r₂ j₂ x₂ v₂ => ?_) Q E out
 exact Qq.pure r₂ (.cons (j₁.ext x₂) j₂)
end
noncomputable def UM (f : AEnv → Res (List D)) : AEnv → Res T := fun ρ => (f ρ).bind fun ds ρ₁ => if ds.length ≤ 1000000 then .ok (.sh (.tup ds)) ρ₁ else .stuck
noncomputable def YB (f : AEnv → Res (List D)) : AEnv → Res T := fun ρ => (f ρ).bind fun ds ρ₁ => if ds.length ≤ 1000000 then .ok (.ow true (.list ds)) ρ₁ else .stuck
section
variable {G : Gd} {k : Nat} {sc : Scope}
set_option tactic.hygienic true in
theorem XX {es : List Expr} {n : Nat} {pos : Pos} {f : AEnv → Res (List D)} (h : Oa G k sc es f) : Sim G k sc (.Tuple es n pos) (UM f) := by
 intro cx ok ρ S s r
 show Qq G cx sc true (do standAt pos; newTuple (← spliced (backTo pos (starEach es cx.env)))) S s _ _
 refine Qq.standAt (Qq.bind (h pos cx ok ρ S s r) fun ds ρ₁ vs h₁ t₁ S₁ _ r₁ j₁ x₁ v₁ => ?_)
 split
 ·rename_i hl; exact OX (s := { s with heap := h₁, toks := t₁ }) r₁ j₁ hl
 ·exact Qq.stuck
set_option tactic.hygienic true in
theorem XG {es : List Expr} {pos : Pos} {f : AEnv → Res (List D)} (h : Oa G k sc es f) : Sim G k sc (.List es pos) (YB f) := by
 intro cx ok ρ S s r
 show Qq G cx sc true (do standAt pos; newList (← spliced (backTo pos (starEach es cx.env)))) S s _ _
 refine Qq.standAt (Qq.bind (h pos cx ok ρ S s r) fun ds ρ₁ vs h₁ t₁ S₁ _ r₁ j₁ x₁ v₁ => ?_)
 split
 ·rename_i hl; exact VD (s := { s with heap := h₁, toks := t₁ }) r₁ j₁ hl
 ·exact Qq.stuck
end
noncomputable def YD (G : Gd) (k : Nat) (sc : Scope) (e : Expr) (f : AEnv → Res Bool) : Prop :=
 ∀ cx, CxOk G cx sc k → ∀ ρ S s, Rel G cx sc ρ S s.heap → Qq G cx sc true (isTrue e cx.env (eval e cx.env)) S s (fun _ _ a b => a = b) (f ρ)
noncomputable def asB : D → Option Bool
 | .bool b => some b
 | _ => none
noncomputable def Xi (f : AEnv → Res Bv) : AEnv → Res Bool := fun ρ => (f ρ).bind fun a ρ₁ => match a.get ρ₁ with
 | some x => (match asB x with | some b => .ok b ρ₁ | none => .stuck)
 | none => .stuck
noncomputable def Zj (f : AEnv → Res Bool) : AEnv → Res Bool := fun ρ => (f ρ).bind fun b ρ₁ => .ok (!b) ρ₁
noncomputable def VP : AEnv → Res Bool := fun ρ => .ok true ρ
noncomputable def X7 : AEnv → Res Bool := fun ρ => .ok false ρ
noncomputable def D4 (f g : AEnv → Res Bool) : AEnv → Res Bool := fun ρ => (f ρ).bind fun b ρ₁ => if b then g ρ₁ else .ok false ρ₁
noncomputable def eOr (f g : AEnv → Res Bool) : AEnv → Res Bool := fun ρ => (f ρ).bind fun b ρ₁ => if b then .ok true ρ₁ else g ρ₁
noncomputable def Xj (F : D → D → Option T) (f g : AEnv → Res Bv) : AEnv → Res Bool := fun ρ => (f ρ).bind fun a ρ₁ => (g ρ₁).bind fun b ρ₂ => match a.get ρ₂, b.get ρ₂ with
 | some x, some y => (match F x y with | some (.sh (.bool b)) => .ok b ρ₂ | _ => .stuck)
 | _, _ => .stuck
section
variable {G : Gd} {k : Nat} {sc : Scope}
set_option tactic.hygienic true in
theorem DU {e : Expr} {f : AEnv → Res Bv} (h : Qg G k sc e f) (he : ∀ env whole, isTrue e env whole = (do let v ← whole; standAt e.pos; holding [v] (truthy v))) : YD G k sc e (Xi f) := by
 intro cx ok ρ S s r
 rw [he]
 refine Qq.bind (h cx ok ρ S s r) fun a ρ₁ va h₁ t₁ S₁ _ r₁ ja x₁ v₁ => ?_
 refine Qq.standAt (Qq.holding ?_)
 split
 ·rename_i x hx
  split
  ·rename_i b hb
   have rb := Z6.rb ja r₁ hx
   unfold asB at hb
   split at hb
   ·cases hb
    rw [rb.bool]
    intro Q E out
    exact wpAny_truthy_bool (out _ h₁ t₁ S₁ r₁ rfl (Ext.refl ..) fun _ => Qv.refl _ _)
   ·cases hb
  ·exact Qq.stuck
 ·exact Qq.stuck
theorem QY {x : Expr} {pos : Pos} {f : AEnv → Res Bool} (h : YD G k sc x f) : YD G k sc (.UnaryOp .Not x pos) (Zj f) := by
 intro cx ok ρ S s r
 show Qq G cx sc true (do return !(← isTrue x cx.env (eval x cx.env))) S s _ _
 refine Qq.bind (h cx ok ρ S s r) fun b ρ₁ a h₁ t₁ S₁ _ r₁ j x₁ v₁ => ?_
 exact Qq.pure r₁ (by rw [j])
noncomputable def Ob (G : Gd) (k : Nat) (sc : Scope) (op : BoolOp) (es : List Expr) (f : AEnv → Res Bool) : Prop :=
 ∀ cx, CxOk G cx sc k → ∀ ρ S s, Rel G cx sc ρ S s.heap → Qq G cx sc true (allTrue op es cx.env) S s (fun _ _ a b => a = b) (f ρ)
theorem OL : Ob G k sc .And [] VP := fun _ _ _ _ _ r => Qq.pure r rfl
theorem Q2 : Ob G k sc .Or [] X7 := fun _ _ _ _ _ r => Qq.pure r rfl
theorem O5 {x : Expr} {rest : List Expr} {f g : AEnv → Res Bool} (hx : YD G k sc x f) (hr : Ob G k sc .And rest g) : Ob G k sc .And (x :: rest) (D4 f g) := by
 intro cx ok ρ S s r
 show Qq G cx sc true (do match BoolOp.And, ← isTrue x cx.env (eval x cx.env) with | .And, false => pure false | .Or, true => pure true | _, _ => allTrue .And rest cx.env) S s _ _
 refine Qq.bind (hx cx ok ρ S s r) fun b ρ₁ a h₁ t₁ S₁ _ r₁ j x₁ v₁ => ?_
 subst j
 cases a
 ·exact Qq.pure r₁ rfl
 ·exact hr cx ok ρ₁ S₁ _ r₁
theorem QH {x : Expr} {rest : List Expr} {f g : AEnv → Res Bool} (hx : YD G k sc x f) (hr : Ob G k sc .Or rest g) : Ob G k sc .Or (x :: rest) (eOr f g) := by
 intro cx ok ρ S s r
 show Qq G cx sc true (do match BoolOp.Or, ← isTrue x cx.env (eval x cx.env) with | .And, false => pure false | .Or, true => pure true | _, _ => allTrue .Or rest cx.env) S s _ _
 refine Qq.bind (hx cx ok ρ S s r) fun b ρ₁ a h₁ t₁ S₁ _ r₁ j x₁ v₁ => ?_
 subst j
 cases a
 ·exact hr cx ok ρ₁ S₁ _ r₁
 ·exact Qq.pure r₁ rfl
theorem Q7 {op : BoolOp} {es : List Expr} {pos : Pos} {f : AEnv → Res Bool} (h : Ob G k sc op es f) : YD G k sc (.BoolOp op es pos) f := by
 intro cx ok ρ S s r
 rw [arm_isTrue_BoolOp]; exact h cx ok ρ S s r
set_option tactic.hygienic true in
theorem UY {cx : Cx} {ρ : AEnv} {S : Addr → Prop} {s : Shared} {m : Sem Value} {t : T} (h : Qq G cx sc true m S s (fun S' h' v t => Jp cx S' h' v t) (.ok t ρ)) {vs : Value → List Value} :
  Qq G cx sc true (do let c ← m; holding (vs c) (truthy c)) S s (fun _ _ a b => a = b) (match t with | .sh (.bool b) => .ok b ρ | _ => .stuck) := by
 intro Q E out
 refine wpAny_bind (h _ _ ?_)
 intro v h' tk S' rel j x v'
 refine wpAny_holding ?_
 split at out
 ·rename_i b
  cases j with
  | bool b => exact wpAny_truthy_bool (out _ h' tk S' rel rfl x v')
 ·exact out.elim
theorem OK {l r : Expr} {op : CmpOp} {pos : Pos} {f g : AEnv → Res Bv} {F : D → D → Option T} (hl : Qg G k sc l f) (hr : Qg G k sc r g) (hop : Op2 G (compareOp op) F)
  (hm : behindInMarks op r = false) : YD G k sc (.Compare l [op] [r] pos) (Xj F f g) := by
 intro cx ok ρ S s rel
 rw [isTrue_Compare1, markedBehindIn_of_false hm]
 refine WA (K := fun x y ρ₂ => match F x y with | some (.sh (.bool b)) => .ok b ρ₂ | _ => .stuck) hl hr ok rel fun ρ' S' h' tk v w x y rel' rx ry => ?_
 refine Qq.standAt ?_
 cases hF : F x y with
 | none => exact Qq.stuck
 | some t =>
  have := UY (vs := fun c => [c]) (Qq.operate (vs := [v, w]) (hop cx sc (ok.mono (Nat.zero_le _)) ρ' S' { s with heap := h', toks := tk } v w x y t rel' rx ry hF))
  cases t with
  | sh d => cases d <;> exact this
  | ow m d => exact this
end
noncomputable def ZU (F F' : D → D → Option T) (f g h : AEnv → Res Bv) : AEnv → Res Bool := fun ρ => (f ρ).bind fun a ρ₁ => (g ρ₁).bind fun b ρ₂ => match a.get ρ₂, b.get ρ₂ with
 | some x, some y => (match F x y with
  | some (.sh (.bool true)) => (h ρ₂).bind fun c ρ₃ => (match b.get ρ₃, c.get ρ₃ with
   | some y', some z => (match F' y' z with | some (.sh (.bool b)) => .ok b ρ₃ | _ => .stuck)
   | _, _ => .stuck)
  | some (.sh (.bool false)) => .ok false ρ₂
  | _ => .stuck)
 | _, _ => .stuck
set_option tactic.hygienic true in
theorem Cs {G : Gd} {k : Nat} {sc : Scope} {l m r : Expr} {op op' : CmpOp} {pos : Pos} {f g h : AEnv → Res Bv} {F F' : D → D → Option T} (hl : Qg G k sc l f) (hm : Qg G k sc m g) (hr : Qg G k sc r h) (hop : Op2 G (compareOp op) F) (hop' : Op2 G (compareOp op') F')
  (hb : behindInMarks op' r = false) : YD G k sc (.Compare l [op, op'] [m, r] pos) (ZU F F' f g h) := by
 intro cx ok ρ S s rel
 show Qq G cx sc true (do testChain pos (← eval l cx.env) [op, op'] [eval m cx.env, markedBehindIn op' r (eval r cx.env)]) S s _ _
 rw [markedBehindIn_of_false hb]
 show Qq G cx sc true (do
  let a ← eval l cx.env
  let rv ← holding [a] (eval m cx.env)
  standAt pos
  let c ← holding [a, rv] (compareOp op a rv)
  release [a, rv] [c]
  if ← holding [c, rv] (truthy c) then testChain pos rv [op'] [eval r cx.env] else pure false) S s _ _
 unfold ZU
 refine Qq.bind (hl cx ok ρ S s rel) fun a ρ₁ va h₁ t₁ S₁ _ rel₁ ja x₁ v₁ => ?_
 refine Qq.bind (Qq.holding (hm cx ok ρ₁ S₁ { s with heap := h₁, toks := t₁ } rel₁)) fun b ρ₂ vb h₂ t₂ S₂ _ rel₂ jb x₂ v₂ => ?_
 have ja₂ : Z6 cx sc S₂ h₂ va a := Z6.ext ja x₂ (v₂ rfl)
 refine Qq.standAt ?_
 split
 ·rename_i x y hx hy
  have rx := ja₂.rb rel₂ hx
  have ry := Z6.rb jb rel₂ hy
  cases hF : F x y with
  | none => exact Qq.stuck
  | some t =>
   have hc := hop cx sc (ok.mono (Nat.zero_le _)) ρ₂ S₂ { s with heap := h₂, toks := t₂ } va vb x y t rel₂ rx ry hF
   intro Q E out
   refine wpAny_bind (wpAny_holding (hc _ _ ?_))
   intro c h₃ t₃ S₃ rel₃ j₃ x₃ v₃
   refine wpAny_bind (wpAny_release ?_)
   refine wpAny_bind (wpAny_holding ?_)
   cases t with
   | ow m d => exact out.elim
   | sh d =>
    cases d with
    | bool b' =>
     cases j₃
     refine wpAny_truthy_bool ?_
     cases b' with
     | false => exact wpAny_pure (out _ h₃ t₃ S₃ rel₃ rfl x₃ v₃)
     | true =>
      have jb₃ : Z6 cx sc S₃ h₃ vb b := Z6.ext jb x₃ (v₃ rfl)
      show wpAny _ _ (do let rv ← holding [vb] (eval r cx.env); standAt pos; let c ← operate [vb, rv] (compareOp op' vb rv); holding [c] (truthy c)) _ _ _
      have step : Qq G cx sc true (do let rv ← holding [vb] (eval r cx.env); standAt pos; let c ← operate [vb, rv] (compareOp op' vb rv); holding [c] (truthy c)) S₃ { s with heap := h₃, toks := t₃ } (fun _ _ a b => a = b)
        ((h ρ₂).bind fun c ρ₃ => (match b.get ρ₃, c.get ρ₃ with
         | some y', some z => (match F' y' z with | some (.sh (.bool b)) => .ok b ρ₃ | _ => .stuck)
         | _, _ => .stuck)) := by
       refine Qq.bind (Qq.holding (hr cx ok ρ₂ S₃ { s with heap := h₃, toks := t₃ } rel₃)) fun c' ρ₄ vc h₄ t₄ S₄ _ rel₄ jc x₄ v₄ => ?_
       have jb₄ : Z6 cx sc S₄ h₄ vb b := Z6.ext jb₃ x₄ (v₄ rfl)
       refine Qq.standAt ?_
       split
       ·rename_i y' z hy' hz
        cases hF' : F' y' z with
        | none => exact Qq.stuck
        | some t' =>
         have := UY (vs := fun c => [c]) (Qq.operate (vs := [vb, vc]) (hop' cx sc (ok.mono (Nat.zero_le _)) ρ₄ S₄ { s with heap := h₄, toks := t₄ } vb vc y' z t' rel₄ (jb₄.rb rel₄ hy') (Z6.rb jc rel₄ hz) hF'))
         cases t' with
         | sh d => cases d <;> exact this
         | ow m d => exact this
       ·exact Qq.stuck
      refine step Q E ?_
      cases hr' : (h ρ₂).bind fun c ρ₃ => (match b.get ρ₃, c.get ρ₃ with
         | some y', some z => (match F' y' z with | some (.sh (.bool b)) => .ok b ρ₃ | _ => .stuck)
         | _, _ => .stuck) with
      | stuck => rw [hr'] at out; exact out
      | exc C ρ' => rw [hr'] at out; intro e h' tk S' rel' fly x'; exact out e h' tk S' rel' (fly.back x₃) (x₃.trans x')
      | ok b ρ' => rw [hr'] at out; intro a h' tk S' rel' j x' v'; exact out a h' tk S' rel' j (x₃.trans x') fun q => (v₃ q).trans (v' q)
    | _ => exact out.elim
 ·exact Qq.stuck
end Mine
end

section
set_option Elab.async false
set_option maxRecDepth 100000
namespace Mine
open PySem
structure KpE (B h : Heap) (e : Addr) (g h' : Heap) : Prop where
 keep : ∀ b o, g.get? b = some o → b ≠ e → (o.cls ≠ .type "traceback" ∨ ∃ o₀, h.get? b = some o₀) → ∃ sl, h'.get? b = some { o with slots := sl } ∧ (XK o → sl = o.slots)
 base : ∀ b o, B.get? b = some o → g.get? b = some o → b ≠ e → (∃ o₀, h.get? b = some o₀) → h'.get? b = some o
 dom : ∀ b o, g.get? b = some o → ∃ o', h'.get? b = some o'
 kd : ∀ b o es n, g.get? b = some o → o.data = .dict es n → ∃ sl, h'.get? b = some { o with slots := sl }
theorem KpE.trans {B h : Heap} {e : Addr} {g₁ g₂ g₃ : Heap} (x : KpE B h e g₁ g₂) (y : KpE B h e g₂ g₃) : KpE B h e g₁ g₃ where
 keep := fun b o eb hb q => by
  obtain ⟨sl, e₁, k₁⟩ := x.keep b o eb hb q
  obtain ⟨sl', e₂, k₂⟩ := y.keep b _ e₁ hb q
  exact ⟨sl', e₂, fun hn => (k₂ hn).trans (k₁ hn)⟩
 base := fun b o eb eg hb q => y.base b o eb (x.base b o eb eg hb q) hb q
 dom := fun b o eb => let ⟨o', e'⟩ := x.dom b o eb; y.dom b o' e'
 kd := fun b o es n eb hd => by
  obtain ⟨sl, e₁⟩ := x.kd b o es n eb hd
  obtain ⟨sl', e₂⟩ := y.kd b _ es n e₁ hd
  exact ⟨sl', e₂⟩
theorem KpE.refl (B h : Heap) (e : Addr) (g : Heap) : KpE B h e g g := ⟨fun _ o eb _ _ => ⟨o.slots, eb, fun _ => rfl⟩, fun _ _ _ e _ _ => e, fun _ o eb => ⟨o, eb⟩, fun _ o _ _ eb _ => ⟨o.slots, eb⟩⟩
noncomputable def We (h h' : Heap) (e C : Addr) : Prop := h.get? e = none ∧ ∃ oe vs T oT ts, h'.get? e = some oe ∧ oe.cls = .ref C ∧ oe.dict = none ∧ oe.data = .fields vs ∧ vs[2]? = some .none ∧
 vs[1]? = some (.ref T) ∧ T ≠ e ∧ h.get? T = none ∧ h'.get? T = some oT ∧ oT.cls = .type "traceback" ∧ oT.data = .fields ts ∧ 3 < ts.size
theorem We.fly {h h' : Heap} {e C : Addr} (x : We h h' e C) : Fly h h' e C := by
 obtain ⟨n, oe, vs, T, oT, ts, a, b, b', c, d, k⟩ := x
 exact ⟨n, oe, vs, a, b, b', c, d, .inr ⟨T, oT, ts, k⟩⟩
theorem Ou (f : Array Value → Array Value) (o : Obj) : (Obj.mapFields f o).dict = o.dict := by
 obtain ⟨c, d, dt, sl⟩ := o
 cases dt <;> rfl
theorem FI {vs : Array Value} {x : Value} (h : vs[2]? = some .none) : (vs.setIfInBounds 1 x)[2]? = some .none := by
 rw [Array.getElem?_setIfInBounds_ne (by decide)]; exact h
section
variable {M : Model} {A : Around} {E : Value → Shared → Prop} {s : Shared} {B h : Heap} {fs : List Env} {env : Env} {e C : Addr}
theorem VX {env env' : Env} (h : env.frame = env'.frame) : frameOf env = frameOf env' := by unfold frameOf; rw [h]
theorem FF.notFrame (ff : FF B s.heap fs) {b : Addr} {o : Obj} (eb : s.heap.get? b = some o) (hn : XK o) : b ∉ fs.filterMap (·.frame) := fun hm => by
 obtain ⟨env, he, hf⟩ := List.mem_filterMap.mp hm
 obtain ⟨_, L, o', h1, _, h3, es, n, h4⟩ := ff env he
 rw [h1] at hf; cases hf
 rw [eb] at h3; cases h3
 exact hn es n h4
theorem BF {L : Addr} {oe : Obj} {vs : Array Value} {head : Value} {hadNext : Bool} {Q : Unit → Shared → Prop} (hfr : A.frames = some fs) (ff : FF B s.heap fs) (top : ∃ env₀ outer, fs = env₀ :: outer ∧ env.frame = env₀.frame) (hf : env.frame = some L)
  (hne : h.get? e = none) (dom : ∀ b o, h.get? b = some o → ∃ o', s.heap.get? b = some o') (he : s.heap.get? e = some oe) (hc : oe.cls = .ref C) (hdn : oe.dict = none) (hd : oe.data = .fields vs) (hsz : 1 < vs.size) (h2 : vs[2]? = some .none)
  (hQ : ∀ h', KpE B h e s.heap h' → We h h' e C → Q () { s with heap := h' }) :
  wpAny M A (do let a ← frameOf env; let pl ← entryPlaceOf L hadNext; let b ← EntryCells.newEntry head a .none (rawInt L) .none pl; setField (.ref e) 1 b) Q E s := by
 obtain ⟨env₀, outer, rfl, hee⟩ := top
 rw [VX hee]
 have hene : e ∉ (env₀ :: outer).filterMap (·.frame) := ff.notFrame he (.fields hd)
 refine wpAny_bind (wpAny_frameOf_fun (base := B) hfr ff.fun (hee.symm.trans hf) fun h₁ hs₁ => ?_)
 refine wpAny_bind (wpAny_entryPlaceOf fun pl hpl => ?_)
 unfold EntryCells.newEntry newFields
 refine wpAny_bind (wpAny_newObj_type ?_ (hpl.sizeOk5 _ _ _ _ _))
 have he₁ : h₁.get? e = some oe := (hs₁.2.1 e hene).trans he
 have he₂ := Heap.get?_push_of_some (h := h₁) { cls := .type "traceback", dict := none, data := .fields ([head, .ref L, .none, rawInt L, .none] ++ (if pl.isEmpty then List.replicate 6 Value.none else pl)).toArray } he₁
 refine wpAny_setField he₂ hd hsz (hQ _ ?_ ?_)
 ·have keep : ∀ b o, b ≠ e → h₁.get? b = some o → ((h₁.push { cls := .type "traceback", dict := none, data := .fields ([head, .ref L, .none, rawInt L, .none] ++ (if pl.isEmpty then List.replicate 6 Value.none else pl)).toArray }).update e (Obj.mapFields (·.setIfInBounds 1 (Value.ref h₁.objs.size)))).get? b = some o := fun b o hbe hb => by
   rw [Heap.get?_update_other _ _ (Ne.symm hbe)]
   exact Heap.get?_push_of_some _ hb
  refine ⟨fun b o eb hb _ => ?_, fun b o eB eb hb _ => ?_, fun b o eb => ?_, fun b o es n eb hbd => ?_⟩
  rotate_right
  ·have hb : b ≠ e := by rintro rfl; rw [he] at eb; cases eb; rw [hd] at hbd; cases hbd
   obtain ⟨sl, e₁⟩ := hs₁.2.2 b o eb
   exact ⟨sl, keep b _ hb e₁⟩
  ·obtain ⟨sl, e₁⟩ := hs₁.2.2 b o eb
   refine ⟨sl, keep b _ hb e₁, fun hn => ?_⟩
   have := hs₁.2.1 b (ff.notFrame eb hn)
   rw [eb, e₁] at this
   injection this with this
   have := congrArg Obj.slots this
   exact this
  ·refine keep b o hb ((hs₁.2.1 b fun hm => ?_).trans eb)
   obtain ⟨env', he', hf'⟩ := List.mem_filterMap.mp hm
   obtain ⟨_, L', o', h1', h2', _⟩ := ff env' he'
   rw [h1'] at hf'; cases hf'
   rw [h2'] at eB; cases eB
  ·by_cases hb : b = e
   ·subst hb; exact ⟨_, Heap.get?_update_self _ he₂ (Obj.isFreed_of_fields (Obj.data_mapFields hd _))⟩
   ·obtain ⟨sl, e₁⟩ := hs₁.2.2 b o eb
    exact ⟨_, keep b _ hb e₁⟩
 ·have hTe : h₁.objs.size ≠ e := Nat.ne_of_gt (Heap.lt_size he₁)
  refine ⟨hne, _, _, h₁.objs.size, _, _, Heap.get?_update_self _ he₂ (Obj.isFreed_of_fields (Obj.data_mapFields hd _)), (Obj.cls_mapFields _ _).trans hc, (Ou _ _).trans hdn, Obj.data_mapFields hd _, FI h2, by simp [hsz], hTe, ?_, (Heap.get?_update_other _ _ (Ne.symm hTe)).trans (Heap.get?_push_size h₁ rfl), rfl, rfl, ?_⟩
  ·cases q : h.get? h₁.objs.size with
   | none => rfl
   | some o =>
    obtain ⟨o', e'⟩ := dom _ _ q
    obtain ⟨sl, e₁⟩ := hs₁.2.2 _ o' e'
    exact absurd (Heap.lt_size e₁) (Nat.lt_irrefl _)
  ·simp only [List.size_toArray, List.length_append, List.length_cons, List.length_nil]; omega
theorem O7 {g : Heap} {T : Addr} {f : Obj → Obj} {oT : Obj} {ts : Array Value} (hT : g.get? T = some oT) (hc : oT.cls = .type "traceback") (hd : oT.data = .fields ts) (hTn : h.get? T = none) (hfr : (f oT).isFreed = false) : KpE B h e g (g.update T f) := by
 have ne : ∀ b o, g.get? b = some o → (o.cls ≠ .type "traceback" ∨ ∃ o₀, h.get? b = some o₀) → T ≠ b := fun b o eb q hb => by
  subst hb
  rcases q with q | ⟨o₀, q⟩
  ·rw [hT] at eb; cases eb; exact q hc
  ·rw [hTn] at q; cases q
 refine ⟨fun b o eb _ q => ⟨o.slots, (Heap.get?_update_other _ _ (ne b o eb q)).trans eb, fun _ => rfl⟩, fun b o _ eb _ q => (Heap.get?_update_other _ _ (ne b o eb (.inr q))).trans eb, fun b o eb => ?_, fun b o es n eb hbd => ⟨o.slots, (Heap.get?_update_other _ _ (by rintro rfl; rw [hT] at eb; cases eb; rw [hd] at hbd; cases hbd)).trans eb⟩⟩
 by_cases hb : T = b
 ·subst hb; rw [hT] at eb; cases eb; exact ⟨_, Heap.get?_update_self _ hT hfr⟩
 ·exact ⟨o, (Heap.get?_update_other _ _ hb).trans eb⟩
theorem WD {Q : Unit → Shared → Prop} (hfr : A.frames = some fs) (ff : FF B s.heap fs) (top : ∃ env₀ outer, fs = env₀ :: outer ∧ env.frame = env₀.frame)
  (fly : Fly h s.heap e C) (dom : ∀ b o, h.get? b = some o → ∃ o', s.heap.get? b = some o') (hQ : ∀ h', KpE B h e s.heap h' → We h h' e C → Q () { s with heap := h' }) :
  wpAny M A (noteFrame (.ref e) env) Q E s := by
 obtain ⟨L, hf⟩ : ∃ L, env.frame = some L := by
  obtain ⟨env₀, outer, rfl, hee⟩ := top
  obtain ⟨_, L, _, h1, _⟩ := ff env₀ (.head _)
  exact ⟨L, hee.trans h1⟩
 obtain ⟨hne, oe, vs, he, hc, hdn, hd, h2, ht⟩ := fly
 unfold noteFrame
 simp only [hf]
 rcases ht with h1 | ⟨T, oT, ts, h1, hTe, hTn, hT, hcT, hdT, h3⟩
 ·refine wpAny_bind (wpAny_field he hd h1 ?_)
  rw [if_neg (by decide)]
  exact BF hfr ff top hf hne dom he hc hdn hd (Array.getElem?_eq_some_iff.mp h1).1 h2 hQ
 ·refine wpAny_bind (wpAny_field he hd h1 ?_)
  rw [if_pos (show (Value.ref T != Value.none) = true from by simp)]
  refine wpAny_bind (wpAny_field hT hdT (x := ts[3]) (by simp [h3]) ?_)
  by_cases hq : (ts[3] == rawInt L) = true
  ·rw [if_pos hq]
   exact wpAny_pure (hQ s.heap (.refl ..) ⟨hne, oe, vs, T, oT, ts, he, hc, hdn, hd, h2, h1, hTe, hTn, hT, hcT, hdT, h3⟩)
  ·rw [if_neg hq]
   refine wpAny_bind (wpAny_setField hT hdT h3 ?_)
   have kp : KpE B h e s.heap (s.heap.update T (Obj.mapFields (·.setIfInBounds 3 Value.none))) := O7 hT hcT hdT hTn (Obj.isFreed_of_fields (Obj.data_mapFields hdT _))
   refine BF (h := h) (fs := fs) (B := B) (s := { s with heap := s.heap.update T (Obj.mapFields (·.setIfInBounds 3 Value.none)) }) hfr (fun env' he' => ?_) top hf hne (fun b o q => ?_) ((Heap.get?_update_other _ _ hTe).trans he) hc hdn hd (Array.getElem?_eq_some_iff.mp h1).1 h2
    fun h' k f => hQ h' (kp.trans k) f
   ·obtain ⟨a, L', o, b, c, d, es, n, k⟩ := ff env' he'
    refine ⟨a, L', o, b, c, (Heap.get?_update_other _ _ ?_).trans d, es, n, k⟩
    rintro rfl
    rw [hT] at d; cases d; rw [hdT] at k; cases k
   ·obtain ⟨o', q'⟩ := dom b o q
    exact kp.dom b o' q'
theorem Wy {Q : Unit → Shared → Prop} {fr : Option Addr} (fly : We h s.heap e C) (hQ : ∀ h', KpE B h e s.heap h' → We h h' e C → Q () { s with heap := h' }) : wpAny M A (setFlight (.ref e) fr) Q E s := by
 obtain ⟨hne, oe, vs, T, oT, ts, he, hc, hdn, hd, h2, h1, hTe, hTn, hT, hcT, hdT, h3⟩ := fly
 unfold setFlight
 refine wpAny_bind (wpAny_field he hd h1 ?_)
 rw [if_pos (show (Value.ref T != Value.none) = true from by simp)]
 refine wpAny_setField hT hdT h3 (hQ _ (O7 hT hcT hdT hTn (Obj.isFreed_of_fields (Obj.data_mapFields hdT _))) ?_)
 refine ⟨hne, oe, vs, T, _, _, (Heap.get?_update_other _ _ hTe).trans he, hc, hdn, hd, h2, h1, hTe, hTn, Heap.get?_update_self _ hT (Obj.isFreed_of_fields (Obj.data_mapFields hdT _)), (Obj.cls_mapFields _ _).trans hcT, Obj.data_mapFields hdT _, by simp [h3]⟩
theorem K8 {Q : Unit → Shared → Prop} (hfr : A.frames = some fs) (ff : FF B s.heap fs) (top : ∃ env₀ outer, fs = env₀ :: outer ∧ env.frame = env₀.frame)
  (fly : Fly h s.heap e C) (dom : ∀ b o, h.get? b = some o → ∃ o', s.heap.get? b = some o') (hQ : ∀ h', KpE B h e s.heap h' → We h h' e C → Q () { s with heap := h' }) :
  wpAny M A (leaving env (.ref e)) Q E s := by
 unfold leaving
 refine wpAny_bind (WD hfr ff top fly dom fun h₁ k₁ f₁ => ?_)
 exact Wy (s := { s with heap := h₁ }) (B := B) f₁ fun h₂ k₂ f₂ => hQ h₂ (k₁.trans k₂) f₂
end
end Mine
end

section
set_option Elab.async false
set_option maxRecDepth 100000
namespace Mine
open PySem
theorem KpE.carry {B h g h' : Heap} {e C : Addr} {S : Addr → Prop} (k : KpE B h e g h') (f : Fly h g e C) (f' : We h h' e C) : Carry S g S h' where
 tup := fun e' hc hd => by
  obtain ⟨_, oe, vs, he, _, _, hde, _⟩ := f
  obtain ⟨sl, q, hs⟩ := k.keep _ _ e' (by rintro rfl; rw [he] at e'; cases e'; rw [hde] at hd; cases hd) (.inl (by rw [hc]; simp))
  rw [hs (.seq hd)] at q; exact q
 list := fun s e' hc hd => by
  refine ⟨s, ?_⟩
  obtain ⟨_, oe, vs, he, _, _, hde, _⟩ := f
  obtain ⟨sl, q, hs⟩ := k.keep _ _ e' (by rintro rfl; rw [he] at e'; cases e'; rw [hde] at hd; cases hd) (.inl (by rw [hc]; simp))
  rw [hs (.seq hd)] at q; exact q
 range := fun e' => by
  obtain ⟨_, oe, vs, he, hce, _⟩ := f
  obtain ⟨sl, q, hs⟩ := k.keep _ _ e' (by rintro rfl; unfold IsRange at e'; rw [he] at e'; cases e'; cases hce) (.inl (by simp))
  have hs := hs (.fields rfl)
  simp only at hs
  subst hs
  exact q
 exc := fun {a} {o} {vs} {C'} e' hc hn hd r => by
  by_cases ha : a = e
  ·subst ha
   obtain ⟨_, oe, vs, he, hce, _⟩ := f
   rw [he] at e'; cases e'
   rw [hc] at hce; cases hce
   obtain ⟨_, oe', vs', _, _, _, h1, h2, hn', h3, h4, _⟩ := f'
   exact .exc h1 h2 hn' h3 h4
  ·obtain ⟨sl, q, hs⟩ := k.keep _ _ e' ha (.inl (by rw [hc]; simp))
   rw [hs (.fields hd)] at q
   exact .exc q hc hn hd r
 dom := fun a o e' => k.dom a o e'
 obj := fun {a dx C' m} s1 s2 e' n => by
  obtain ⟨_, oe, vs, he, _, _, hde, _⟩ := f
  obtain ⟨sl, q, hs⟩ := k.keep _ _ e' (by rintro rfl; rw [he] at e'; cases e'; cases hde) (.inl (by simp))
  have hs := hs (fun es m q => by cases q)
  simp only at hs
  subst hs
  obtain ⟨o, es, ep, ho, hd, r⟩ := n
  obtain ⟨sl, q'⟩ := k.kd _ _ _ _ ho hd
  exact ⟨s1, s2, q, _, es, ep, q', hd, r⟩
theorem RV.kpE {B h g h' : Heap} {e C : Addr} {S : Addr → Prop} (k : KpE B h e g h') (f : Fly h g e C) (f' : We h h' e C) {v : Value} {d : D} (q : RV S g v d) : RV S h' v d := q.map (k.carry f f')
section
variable {G : Gd} {cx : Cx} {sc : Scope} {ρ ρ₀ : AEnv} {S S₀ : Addr → Prop} {h g h' : Heap} {e C : Addr}
theorem KpE.ns (k : KpE G.B h e g h') (f : Fly h g e C) {a : Addr} {m : Str → Option Value} (hk : ∃ o, h.get? a = some o) (n : g.Ns a m) : h'.Ns a m := by
 obtain ⟨o, es, ep, ho, hd, r⟩ := n
 obtain ⟨_, oe, vs, he, _, _, hde, _⟩ := f
 obtain ⟨sl, q, _⟩ := k.keep a o ho (by rintro rfl; rw [he] at ho; cases ho; rw [hde] at hd; cases hd) (.inr hk)
 exact ⟨_, es, ep, q, hd, r⟩
theorem KpE.cell (k : KpE G.B h e g h') (f : Fly h g e C) {a : Addr} {v : Option Value} (hk : ∃ o, h.get? a = some o) (n : g.IsCell a v) : h'.IsCell a v := by
 obtain ⟨o, ho, hd⟩ := n
 obtain ⟨_, oe, vs, he, _, _, hde, _⟩ := f
 obtain ⟨sl, q, _⟩ := k.keep a o ho (by rintro rfl; rw [he] at ho; cases ho; rw [hde] at hd; cases hd) (.inr hk)
 exact ⟨_, q, hd⟩
theorem Rel.var_kpE (r₀ : Rel G cx sc ρ₀ S₀ h) (k : KpE G.B h e g h') (f : Fly h g e C) {x : Str} {v : Value} (q : Var cx.env g x v) : Var cx.env h' x v := by
 rcases q with ⟨a, m, b, c⟩ | ⟨a, c, b, d⟩
 ·exact .inl ⟨a, m, k.ns f (let ⟨_, o, _, _, q, _⟩ := r₀.ns; ⟨o, q⟩) b, c⟩
 ·exact .inr ⟨a, c, b, k.cell f (let ⟨_, o, q, _⟩ := r₀.cells x c b; ⟨o, q⟩) d⟩
theorem Rel.var_back (r₀ : Rel G cx sc ρ₀ S₀ h) (r : Rel G cx sc ρ S g) (k : KpE G.B h e g h') (f : Fly h g e C) {x : Str} {v : Value} (q : Var cx.env h' x v) : Var cx.env g x v := by
 rcases q with ⟨a, m, b, c⟩ | ⟨a, c, b, d⟩
 ·obtain ⟨m₀, n₀⟩ := r.ns
  exact .inl ⟨a, m₀, n₀, by rw [(k.ns f (let ⟨_, o, _, _, q, _⟩ := r₀.ns; ⟨o, q⟩) n₀).agree b x]; exact c⟩
 ·obtain ⟨v₀, i₀⟩ := r.cells x c b
  exact .inr ⟨a, c, b, by rw [IsCell.inj d (k.cell f (let ⟨_, o, q, _⟩ := r₀.cells x c b; ⟨o, q⟩) i₀)]; exact i₀⟩
theorem Rel.kpE (r₀ : Rel G cx sc ρ₀ S₀ h) (r : Rel G cx sc ρ S g) (k : KpE G.B h e g h') (f : Fly h g e C) (f' : We h h' e C) : Rel G cx sc ρ S h' where
 base := fun b o q => k.base b o q (r.base b o q) (by rintro rfl; have := r₀.base _ _ q; rw [f.1] at this; cases this) ⟨o, r₀.base b o q⟩
 keep := fun b o q => by
  obtain ⟨sl, q₁, k₁⟩ := r.keep b o q
  obtain ⟨o₀, q₀⟩ := r₀.keep.dom q
  obtain ⟨sl', q₂, k₂⟩ := k.keep b _ q₁ (by rintro rfl; rw [f.1] at q₀; cases q₀) (.inr ⟨o₀, q₀⟩)
  exact ⟨sl', q₂, fun hn => (k₂ hn).trans (k₁ hn)⟩
 ff := fun env he => by
  obtain ⟨a, L, o, b, c, d, es, n, q⟩ := r.ff env he
  obtain ⟨_, L', o₀, b', _, d', _⟩ := r₀.ff env he
  rw [b] at b'; cases b'
  obtain ⟨sl', q₂, k₂⟩ := k.keep L _ d (by rintro rfl; rw [f.1] at d'; cases d') (.inr ⟨o₀, d'⟩)
  exact ⟨a, L, _, b, c, q₂, es, n, q⟩
 ns := let ⟨m, n⟩ := r.ns; ⟨m, k.ns f (let ⟨_, o, _, _, q, _⟩ := r₀.ns; ⟨o, q⟩) n⟩
 cells := fun x c q => let ⟨v, n⟩ := r.cells x c q; ⟨v, k.cell f (let ⟨_, o, q', _⟩ := r₀.cells x c q; ⟨o, q'⟩) n⟩
 sdom := fun b q => let ⟨o, e⟩ := r.sdom b q; k.dom b o e
 sok := r.sok
 sloc := r.sloc
 scell := r.scell
 live := fun x a hd q => let ⟨o, e⟩ := r.live x a hd (r₀.var_back r k f q); k.dom a o e
 clean := r.clean
 hok := fun v q => let ⟨C, e⟩ := r.hok v q; ⟨C, RV.kpE k f f' e⟩
 vars := fun i x t hx ht => by
  obtain ⟨v, hv, tv⟩ := r.vars i x t hx ht
  refine ⟨v, r₀.var_kpE k f hv, ?_⟩
  cases t with
  | sh d => exact RV.kpE k f f' tv
  | ow m d =>
   obtain ⟨a, rfl, ns, ow, n⟩ := tv
   refine ⟨a, rfl, ns, ?_, n⟩
   rcases ow.cases with ow | ⟨ks, ds, rfl, ow⟩
   ·obtain ⟨o', e'', hcl, vs', n', hd'⟩ := ow.cls
    refine (ow.map (k.carry f f') fun o q hn => ?_).v
    rw [e''] at q; cases q
    obtain ⟨_, oe, ws, he, _, _, hde, _⟩ := f
    obtain ⟨sl, q', hs⟩ := k.keep _ _ e'' (by rintro rfl; rw [he] at e''; cases e''; rw [hde] at hd'; cases hd') (.inl (by rw [hcl]; simp))
    rw [hs hn] at q'; exact q'
   ·refine XI.map (k.carry f f') (fun o q => ?_) ow
    obtain ⟨o', es, nn, _, e'', _, hd', _⟩ := ow
    rw [e''] at q; cases q
    exact k.kd _ _ _ _ e'' hd'
 inj := fun i j x y m m' d d' v hx hy hi hj a b => r.inj i j x y m m' d d' v hx hy hi hj (r₀.var_back r k f a) (r₀.var_back r k f b)
 dok := r.dok.back fun _ _ q => r₀.var_back r k f q
theorem Ext.kpE (x : Ext S₀ h S g) (k : KpE G.B h e g h') (f : Fly h g e C) : Ext S₀ h S h' :=
 ⟨x.sub, fun b o eb q => by
  obtain ⟨sl, e₁, k₁⟩ := x.keep b o eb q
  obtain ⟨sl', e₂, k₂⟩ := k.keep b _ e₁ (by rintro rfl; rw [f.1] at eb; cases eb) (.inr ⟨o, eb⟩)
  exact ⟨sl', e₂, fun hn => (k₂ hn).trans (k₁ hn)⟩, fun b o eb => let ⟨o', e'⟩ := x.dom b o eb; k.dom b o' e'⟩
end
structure FnCx (G : Gd) (cx : Cx) : Prop where
 bh : G.B.StaysIn cx.h₀
 lnew : cx.h₀.get? cx.env.locals = none
 cap : ∀ x y c, cx.env.cells.lookup x = some c → cx.env.cells.lookup y = some c → cx.h₀.get? c = none → x = y
 loc : ∀ x c, cx.env.cells.lookup x = some c → c ≠ cx.env.locals
section
variable {G : Gd} {cx : Cx} {sc : Scope} {ρ : AEnv} {S : Addr → Prop} {h h' : Heap}
theorem E5 {loc : Addr} {oL : Obj} (e : h.get? loc = some oL) (hi : ¬ Imm oL) (hs : ¬ S loc) (k : Heap.SameBut loc h h') (e' : ∃ o, h'.get? loc = some o) : Ext S h S h' :=
 ⟨fun _ q => q, fun b o eb q => ⟨o.slots, (k.2 b (by rintro rfl; rw [e] at eb; cases eb; exact q.elim hs hi)).trans eb, fun _ => rfl⟩, fun b o eb => by
  by_cases hb : b = loc
  ·subst hb; exact e'
  ·exact ⟨o, (k.2 b hb).trans eb⟩⟩
theorem Rel.store {loc : Addr} {oL : Obj} {i : Nat} {x : Str} {v : Value} {t : T} (r : Rel G cx sc ρ S h) (bh : G.B.StaysIn cx.h₀) (nd : (Qf sc).Nodup) (hx : (Qf sc)[i]? = some x)
  (e : h.get? loc = some oL) (hi : ¬ Imm oL) (hq : ∀ vs n, oL.data ≠ .seq vs n) (hs : ¬ S loc) (hn : cx.h₀.get? loc = none) (hdl : loc = cx.env.locals ∨ ∀ es n, oL.data ≠ .dict es n) (k : Heap.SameBut loc h h')
  (e' : ∃ o, h'.get? loc = some o ∧ ((∃ es n, oL.data = .dict es n) → ∃ es n, o.data = .dict es n)) (ns : ∃ m, h'.Ns cx.env.locals m) (cl : ∀ y c, cx.env.cells.lookup y = some c → ∃ v, h'.IsCell c v)
  (hv : Var cx.env h' x v) (hb : ∀ y w, y ≠ x → Var cx.env h y w → Var cx.env h' y w) (hf : ∀ y w, y ≠ x → Var cx.env h' y w → Var cx.env h y w) (hcl : Xb x = false ∨ ∃ d, t = .sh d) (tv : TSt cx S h v t) :
  Rel G cx sc (ρ.set i (some t)) S h' ∧ Ext S h S h' := by
 obtain ⟨oL', eL', dL'⟩ := e'
 have x' : Ext S h S h' := E5 e hi hs k ⟨_, eL'⟩
 have ow' : ∀ {a d}, ((∃ ks ds, d = .dict ks ds) → a ≠ cx.env.locals) → JZ S h a d → JZ S h' a d := fun {a d} hal q => by
  have hne : a ≠ loc := by
   rintro rfl
   rcases q.cases with q | ⟨ks, ds, rfl, q⟩
   ·obtain ⟨o', ho', _, vs, n, hd⟩ := q.cls
    rw [e] at ho'; cases ho'; exact hq vs n hd
   ·rcases hdl with hdl | hdl
    ·exact hal ⟨_, _, rfl⟩ hdl
    ·obtain ⟨o', es, n, _, ho', _, hd, _⟩ := q
     rw [e] at ho'; cases ho'; exact hdl es n hd
  exact q.ext x' fun o eo => ⟨o.slots, (k.2 a hne).trans eo, fun _ => rfl⟩
 have lt : i < (Qf sc).length := (List.getElem?_eq_some_iff.mp hx).1
 have neName : ∀ (j : Nat) (y : Str), (Qf sc)[j]? = some y → j ≠ i → y ≠ x := fun j y hy hj q => by
  subst q
  obtain ⟨h1, e1⟩ := List.getElem?_eq_some_iff.mp hx
  obtain ⟨h2, e2⟩ := List.getElem?_eq_some_iff.mp hy
  exact hj ((List.getElem_inj nd).mp (e2.trans e1.symm))
 have live : ∀ a, v = .ref a → ∃ o, h.get? a = some o := fun a ea => by
  cases t with
  | sh d => exact RV.live tv a ea
  | ow m d => obtain ⟨b, rfl, _, ow, _⟩ := tv; cases ea; obtain ⟨o, ho, _⟩ := ow.live; exact ⟨o, ho⟩
 refine ⟨⟨fun b o q => (k.2 b (by rintro rfl; rw [bh _ _ q] at hn; cases hn)).trans (r.base b o q), fun b o q => ?_, fun env he => ?_, ns, cl, fun b q => let ⟨o, eo⟩ := r.sdom b q; x'.dom b o eo, r.sok, r.sloc, r.scell, fun y a hdy q => ?_, fun j y m d hy hj => ?_, fun v q => let ⟨C, e⟩ := r.hok v q; ⟨C, e.ext x'⟩, fun j y u hy hu => ?_, fun j l y z m m' d d' u hy hz hj hl a b => ?_, fun j y m ks ds hy hj hvy => ?_⟩, x'⟩
 rotate_right
 ·by_cases hji : j = i
  ·subst hji
   rw [hx] at hy; cases hy
   have hjl : j < ρ.length := by
    by_cases q : j < ρ.length
    ·exact q
    ·rw [List.getElem?_eq_none (by rw [List.length_set]; omega)] at hj; cases hj
   rw [List.getElem?_set_self hjl] at hj; cases hj
   obtain ⟨a', rfl, _, _, _, _, hal⟩ := tv
   have := Var.inj hv hvy
   injection this with this
   exact hal ⟨_, _, rfl⟩ this
  ·rw [List.getElem?_set_ne (Ne.symm hji)] at hj
   exact r.dok j y m ks ds hy hj (hf y _ (neName j y hy hji) hvy)
 ·obtain ⟨sl, q₁, k₁⟩ := r.keep b o q
  exact ⟨sl, (k.2 b (by rintro rfl; rw [q] at hn; cases hn)).trans q₁, k₁⟩
 ·obtain ⟨a, L, o, b, c, d, es, n, q⟩ := r.ff env he
  by_cases hL : L = loc
  ·subst hL
   rw [e] at d; cases d
   obtain ⟨es', n', q'⟩ := dL' ⟨es, n, q⟩
   exact ⟨a, L, _, b, c, eL', es', n', q'⟩
  ·exact ⟨a, L, o, b, c, (k.2 L hL).trans d, es, n, q⟩
 ·by_cases hy : y = x
  ·subst hy
   obtain ⟨o, eo⟩ := live a (Var.inj hv q)
   exact x'.dom a o eo
  ·obtain ⟨o, eo⟩ := r.live y a hdy (hf y _ hy q)
   exact x'.dom a o eo
 ·by_cases hji : j = i
  ·subst hji
   rw [hx] at hy; cases hy
   rcases hcl with hcl | ⟨d', rfl⟩
   ·exact hcl
   ·have hjl : j < ρ.length := by
     by_cases q : j < ρ.length
     ·exact q
     ·rw [List.getElem?_eq_none (by rw [List.length_set]; omega)] at hj; cases hj
    rw [List.getElem?_set_self hjl] at hj; cases hj
  ·rw [List.getElem?_set_ne (Ne.symm hji)] at hj
   exact r.clean j y m d hy hj
 ·by_cases hj : j = i
  ·subst hj
   rw [hx] at hy; cases hy
   by_cases hl : j < ρ.length
   ·rw [List.getElem?_set_self hl] at hu; cases hu
    refine ⟨v, hv, ?_⟩
    cases t with
    | sh d => exact RV.ext x' tv
    | ow m d => obtain ⟨a, rfl, n1, ow, n2, _, hal⟩ := tv; exact ⟨a, rfl, n1, ow' hal ow, fun _ => n2⟩
   ·rw [List.getElem?_eq_none (by rw [List.length_set]; omega)] at hu; cases hu
  ·rw [List.getElem?_set_ne (Ne.symm hj)] at hu
   obtain ⟨w, hw, tw⟩ := r.vars j y u hy hu
   refine ⟨w, hb y w (neName j y hy hj) hw, ?_⟩
   cases u with
   | sh d => exact RV.ext x' tw
   | ow m d =>
    obtain ⟨a, rfl, n1, ow, n2⟩ := tw
    refine ⟨a, rfl, n1, ow' ?_ ow, n2⟩
    rintro ⟨ks, ds, rfl⟩ rfl
    exact r.dok j y m ks ds hy hu hw
 ·by_cases hji : j = i <;> by_cases hli : l = i
  ·rw [hji, hli]
  ·exfalso
   subst hji
   rw [hx] at hy; cases hy
   rw [List.getElem?_set_ne (Ne.symm hli)] at hl
   have hjl : j < ρ.length := by
    by_cases q : j < ρ.length
    ·exact q
    ·rw [List.getElem?_eq_none (by rw [List.length_set]; omega)] at hj; cases hj
   rw [List.getElem?_set_self hjl] at hj; cases hj
   obtain ⟨a', rfl, _, _, _, nv, _⟩ := tv
   rw [Var.inj a hv] at b
   exact nv z (r.clean l z m' d' hz hl) (hf z _ (neName l z hz hli) b)
  ·exfalso
   subst hli
   rw [hx] at hz; cases hz
   rw [List.getElem?_set_ne (Ne.symm hji)] at hj
   have hjl : l < ρ.length := by
    by_cases q : l < ρ.length
    ·exact q
    ·rw [List.getElem?_eq_none (by rw [List.length_set]; omega)] at hl; cases hl
   rw [List.getElem?_set_self hjl] at hl; cases hl
   obtain ⟨a', rfl, _, _, _, nv, _⟩ := tv
   rw [Var.inj b hv] at a
   exact nv y (r.clean j y m d hy hj) (hf y _ (neName j y hy hji) a)
  ·rw [List.getElem?_set_ne (Ne.symm hji)] at hj
   rw [List.getElem?_set_ne (Ne.symm hli)] at hl
   exact r.inj j l y z m m' d d' u hy hz hj hl (hf y _ (neName j y hy hji) a) (hf z _ (neName l z hz hli) b)
theorem Oo {i : Nat} {x : Str} {v : Value} {t : T} {s : Shared} (ok : CxOk G cx sc 0) (fn : FnCx G cx) (r : Rel G cx sc ρ S s.heap) (hx : (Qf sc)[i]? = some x) (hk : sc.names.lookup x = some .local ∨ (sc.names.lookup x = some .cell ∧ ∃ c, cx.env.cells.lookup x = some c ∧ cx.h₀.get? c = none)) (hcl : Xb x = false ∨ ∃ d, t = .sh d) (tv : TSt cx S s.heap v t) :
  Qq G cx sc false (storeName cx.env x v) S s (fun _ _ _ (_ : Unit) => True) (.ok () (ρ.set i (some t))) := by
 intro Q E out
 have hkf : cx.env.scope.kind = .function := by rw [ok.hsc]; exact ok.hk
 have kd : ∀ y, cx.env.kindOf y = sc.names.lookup y := fun y => by unfold Env.kindOf; rw [ok.hsc]
 rcases hk with hk | ⟨hk, hc⟩
 ·obtain ⟨m, hm⟩ := r.ns
  have hm0 := hm
  obtain ⟨oL, es, ep, eL, dL, _⟩ := hm0
  refine wpAny_storeName_local ((kd x).trans hk) hm (fun h' n' k => ?_) (by rw [hkf]; rfl)
  have n'' := n'
  obtain ⟨oL', es', ep', eL', dL', _⟩ := n''
  have cellsame : ∀ y c, cx.env.cells.lookup y = some c → ∀ w, s.heap.IsCell c w → h'.IsCell c w := fun y c q w n => n.sameBut k (fn.loc y c q)
  have vx : Var cx.env h' x v := .inl ⟨(kd x).trans hk, _, n', by simp⟩
  obtain ⟨r', x'⟩ := r.store (loc := cx.env.locals) (i := i) (x := x) (v := v) (t := t) fn.bh ok.nodup hx eL (by rintro (⟨_, vs, n, q⟩ | ⟨vs, q⟩) <;> (rw [dL] at q; cases q)) (fun vs n q => by rw [dL] at q; cases q) r.sloc fn.lnew (.inl rfl) k
   ⟨oL', eL', fun _ => ⟨es', ep', dL'⟩⟩ ⟨_, n'⟩ (fun y c q => let ⟨w, n⟩ := r.cells y c q; ⟨w, cellsame y c q w n⟩) vx
   (fun y w hy q => by
    rcases q with ⟨a, m₁, b, c⟩ | ⟨a, c, b, d⟩
    ·refine .inl ⟨a, _, n', ?_⟩
     rw [if_neg hy, ← b.agree hm y]; exact c
    ·exact .inr ⟨a, c, b, cellsame y c b _ d⟩)
   (fun y w hy q => by
    rcases q with ⟨a, m₁, b, c⟩ | ⟨a, c, b, d⟩
    ·refine .inl ⟨a, m, hm, ?_⟩
     have := b.agree n' y
     rw [if_neg hy] at this
     rw [← this]; exact c
    ·obtain ⟨w₀, n₀⟩ := r.cells y c b
     exact .inr ⟨a, c, b, by rw [IsCell.inj d (cellsame y c b _ n₀)]; exact n₀⟩) hcl tv
  exact out () h' _ S r' trivial x' fun q => by cases q
 ·obtain ⟨c, hc, hcn⟩ := hc
  obtain ⟨w₀, n₀⟩ := r.cells x c hc
  have n₁ := n₀
  obtain ⟨oL, eL, dL⟩ := n₁
  refine wpAny_storeName_cell hkf ((kd x).trans hk) hc n₀ (fun h' n' k => ?_)
  have n'' := n'
  obtain ⟨oL', eL', dL'⟩ := n''
  have hcloc : c ≠ cx.env.locals := fn.loc x c hc
  have nsame : ∀ m, s.heap.Ns cx.env.locals m → h'.Ns cx.env.locals m := fun m n => n.sameBut k (Ne.symm hcloc)
  have cellsame : ∀ y c', y ≠ x → cx.env.cells.lookup y = some c' → ∀ w, s.heap.IsCell c' w → h'.IsCell c' w := fun y c' hy q w n => n.sameBut k (by rintro rfl; exact hy (fn.cap y x c' q hc hcn))
  obtain ⟨r', x'⟩ := r.store (loc := c) (i := i) (x := x) (v := v) (t := t) fn.bh ok.nodup hx eL (by rintro (⟨_, vs, n, q⟩ | ⟨vs, q⟩) <;> (rw [dL] at q; cases q)) (fun vs n q => by rw [dL] at q; cases q) (r.scell x c hc) hcn (.inr fun es n q => by rw [dL] at q; cases q) k
   ⟨oL', eL', fun q => by obtain ⟨_, _, q⟩ := q; rw [dL] at q; cases q⟩ (let ⟨m, n⟩ := r.ns; ⟨m, nsame m n⟩)
   (fun y c' q => by
    by_cases hy : y = x
    ·subst hy; rw [hc] at q; cases q; exact ⟨_, n'⟩
    ·obtain ⟨w, n⟩ := r.cells y c' q; exact ⟨w, cellsame y c' hy q w n⟩) (.inr ⟨.inl ((kd x).trans hk), c, hc, n'⟩)
   (fun y w hy q => by
    rcases q with ⟨a, m₁, b, c'⟩ | ⟨a, c', b, d⟩
    ·exact .inl ⟨a, m₁, nsame m₁ b, c'⟩
    ·exact .inr ⟨a, c', b, cellsame y c' hy b _ d⟩)
   (fun y w hy q => by
    rcases q with ⟨a, m₁, b, c'⟩ | ⟨a, c', b, d⟩
    ·obtain ⟨m₀, n₀⟩ := r.ns
     refine .inl ⟨a, m₀, n₀, ?_⟩
     rw [(nsame m₀ n₀).agree b y]; exact c'
    ·obtain ⟨w₀, n₀⟩ := r.cells y c' b
     exact .inr ⟨a, c', b, by rw [IsCell.inj d (cellsame y c' hy b _ n₀)]; exact n₀⟩) hcl tv
  exact out () h' s.toks S r' trivial x' fun q => by cases q
end
end Mine
end

section
set_option Elab.async false
set_option maxRecDepth 100000
namespace Mine
open PySem
inductive Fl where
 | next
 | brk
 | cont
 | ret (t : T)
noncomputable def FS (cx : Cx) (S : Addr → Prop) (h : Heap) (v : Value) : T → Prop
 | .sh d => RV S h v d
 | .ow _ d => ∃ a, v = .ref a ∧ ¬ S a ∧ XW S h a d ∧ cx.h₀.get? a = none
theorem Jp.ret {cx : Cx} {S : Addr → Prop} {h : Heap} {v : Value} {t : T} (q : Jp cx S h v t) : FS cx S h v t := by
 cases t with
 | sh d => exact q
 | ow m d => obtain ⟨a, e, n, o, k, _⟩ := q; exact ⟨a, e, n, o, k⟩
noncomputable def FlJ (cx : Cx) (S : Addr → Prop) (h : Heap) : Flow → Fl → Prop
 | .next, .next => True
 | .brk, .brk => True
 | .cont, .cont => True
 | .ret v, .ret t => FS cx S h v t
 | _, _ => False
structure FnOk (G : Gd) (cx : Cx) : Prop extends FnCx G cx where
 has : ∀ x, cx.env.kindOf x = some .cell → ∃ c, cx.env.cells.lookup x = some c ∧ cx.h₀.get? c = none
noncomputable def Yk (G : Gd) (k : Nat) (sc : Scope) (st : Stmt) (f : AEnv → Res Fl) : Prop :=
 ∀ cx, CxOk G cx sc k → FnOk G cx → ∀ ρ S s, Rel G cx sc ρ S s.heap → Qq G cx sc false (exec st cx.env) S s (fun S' h' a b => FlJ cx S' h' a b) (f ρ)
noncomputable def YI (G : Gd) (k : Nat) (sc : Scope) (sts : List Stmt) (f : AEnv → Res Fl) : Prop :=
 ∀ cx, CxOk G cx sc k → FnOk G cx → ∀ ρ S s, Rel G cx sc ρ S s.heap → Qq G cx sc false (execs sts cx.env) S s (fun S' h' a b => FlJ cx S' h' a b) (f ρ)
noncomputable def QB : AEnv → Res Fl := fun ρ => .ok .next ρ
noncomputable def Qn (f g : AEnv → Res Fl) : AEnv → Res Fl := fun ρ => (f ρ).bind fun fl ρ₁ => match fl with
 | .next => g ρ₁
 | fl => .ok fl ρ₁
noncomputable def sIf (t : AEnv → Res Bool) (a b : AEnv → Res Fl) : AEnv → Res Fl := fun ρ => (t ρ).bind fun c ρ₁ => if c then a ρ₁ else b ρ₁
noncomputable def XZ (f : AEnv → Res T) : AEnv → Res Fl := fun ρ => (f ρ).bind fun t ρ₁ => .ok (.ret t) ρ₁
noncomputable def Ym (i : Nat) : AEnv → Res Fl := fun ρ => match ρ[i]? with
 | some (some (.sh d)) => .ok (.ret (.sh d)) ρ
 | some (some (.ow true (.list ds))) => .ok (.ret (.ow true (.list ds))) ρ
 | _ => .stuck
noncomputable def ZN (f : AEnv → Res Bv) : AEnv → Res Fl := fun ρ => (f ρ).bind fun _ ρ₁ => .ok .next ρ₁
noncomputable def Qw (i : Nat) (f : AEnv → Res T) : AEnv → Res Fl := fun ρ => (f ρ).bind fun t ρ₁ => .ok .next (ρ₁.set i (some t))
section
variable {G : Gd} {k : Nat} {sc : Scope}
theorem Qh : YI G k sc [] QB := fun _ _ _ _ _ _ r => Qq.pure r trivial
theorem Qb {st : Stmt} {rest : List Stmt} {f g : AEnv → Res Fl} (h1 : Yk G k sc st f) (h2 : YI G k sc rest g) : YI G k sc (st :: rest) (Qn f g) := by
 intro cx ok fn ρ S s r
 rw [execs_cons]
 refine Qq.bind (h1 cx ok fn ρ S s r) fun fl ρ₁ a h₁ t₁ S₁ _ r₁ j x₁ v₁ => ?_
 cases a <;> cases fl <;> first | exact j.elim | exact h2 cx ok fn ρ₁ S₁ _ r₁ | exact Qq.pure r₁ j
theorem Q6 {test : Expr} {body orelse : List Stmt} {pos : Pos} {t : AEnv → Res Bool} {a b : AEnv → Res Fl} (ht : YD G k sc test t) (ha : YI G k sc body a) (hb : YI G k sc orelse b) : Yk G k sc (.If test body orelse pos) (sIf t a b) := by
 intro cx ok fn ρ S s r
 rw [exec_If]
 refine Qq.standAt (Qq.bind (ht cx ok ρ S s r).loose fun c ρ₁ a' h₁ t₁ S₁ _ r₁ j x₁ v₁ => ?_)
 subst j
 cases a'
 ·exact hb cx ok fn ρ₁ S₁ _ r₁
 ·exact ha cx ok fn ρ₁ S₁ _ r₁
theorem Qr {e : Expr} {pos : Pos} {f : AEnv → Res T} (h : Sim G k sc e f) : Yk G k sc (.Return (some e) pos) (XZ f) := by
 intro cx ok fn ρ S s r
 rw [exec_Return_some]
 refine Qq.standAt (Qq.bind (h cx ok ρ S s r).loose fun t ρ₁ v h₁ t₁ S₁ _ r₁ j x₁ v₁ => ?_)
 exact Qq.pure r₁ j.ret
set_option tactic.hygienic true in
theorem K7 {x : Str} {p pos : Pos} {i : Nat} (hx : (Qf sc)[i]? = some x) (hd : (x == ("__debug__" : Str)) = false) (hn : (x == ("__classdict__" : Str)) = false) : Yk G k sc (.Return (some (.Name x p)) pos) (Ym i) := by
 intro cx ok fn ρ S s r
 rw [exec_Return_some]
 refine Qq.standAt ?_
 intro Q E out
 unfold Ym at out
 split at out
 ·rename_i d ht
  obtain ⟨v, hv, tv⟩ := r.vars i x _ hx ht
  exact wpAny_bind (wpAny_Name (XY (ok.mono (Nat.zero_le _)) hv hn rfl (wpAny_pure (out (.ret v) s.heap s.toks S r tv (Ext.refl ..) fun _ => Qv.refl _ _))) hd)
 ·rename_i d ht
  obtain ⟨v, hv, a, rfl, n1, ow, n2⟩ := r.vars i x _ hx ht
  exact wpAny_bind (wpAny_Name (XY (ok.mono (Nat.zero_le _)) hv hn rfl (wpAny_pure (out (.ret (.ref a)) s.heap s.toks S r ⟨a, rfl, n1, ow, n2 rfl⟩ (Ext.refl ..) fun _ => Qv.refl _ _))) hd)
 ·exact out.elim
theorem WV {e : Expr} {pos : Pos} {f : AEnv → Res Bv} (h : Qg G k sc e f) (hs : ∀ env : Env, swapsWith e none pos.line env = pure false) : Yk G k sc (.Expr e pos) (ZN f) := by
 intro cx ok fn ρ S s r Q E out
 refine wpAny_Expr_any ?_ (by unfold interactive; rw [ok.hsc, ok.hk]; rfl) (hs cx.env)
 refine h cx ok ρ S s r _ _ ?_
 unfold ZN at out
 cases hf : f ρ with
 | stuck => rw [hf] at out; exact out
 | exc C ρ' => rw [hf] at out; exact out
 | ok t ρ' => rw [hf] at out; intro v h' tk S' rel j x vs; exact out .next h' tk S' rel trivial x fun q => by cases q
theorem Yn {cx : Cx} {ρ : AEnv} {S : Addr → Prop} {i : Nat} {x : Str} {v : Value} {t : T} {s : Shared} (ok : CxOk G cx sc 0) (fn : FnOk G cx) (r : Rel G cx sc ρ S s.heap) (hx : (Qf sc)[i]? = some x) (hk : sc.names.lookup x = some .local ∨ sc.names.lookup x = some .cell) (hcl : Xb x = false ∨ ∃ d, t = .sh d) (tv : TSt cx S s.heap v t) :
  Qq G cx sc false (bindName cx.env x v) S s (fun _ _ _ (_ : Unit) => True) (.ok () (ρ.set i (some t))) := by
 refine (Oo ok fn.toFnCx r hx (hk.imp id fun q => ⟨q, fn.has x (by unfold Env.kindOf; rw [ok.hsc]; exact q)⟩) hcl tv).wp fun Q E h => wpAny_bindName h
theorem Bm {x : Str} {p pos : Pos} {value : Expr} {i : Nat} {f : AEnv → Res T} (h : Sim G k sc value f) (hx : (Qf sc)[i]? = some x) (hk : sc.names.lookup x = some .local ∨ sc.names.lookup x = some .cell)
  (hcl : Xb x = false) (hs : ∀ env : Env, env.scope = sc → swapsWith value (some (.Name x p)) pos.line env = pure false) : Yk G k sc (.Assign [.Name x p] value pos) (Qw i f) := by
 intro cx ok fn ρ S s r
 rw [exec_Assign_Name _ _ _ _ _ (hs cx.env ok.hsc)]
 refine Qq.standAt (Qq.bind (h cx ok ρ S s r).loose fun t ρ₁ v h₁ t₁ S₁ _ r₁ j x₁ v₁ => ?_)
 refine Qq.standAt ?_
 intro Q E out
 refine wpAny_bind (Yn (s := { s with heap := h₁, toks := t₁ }) (ok.mono (Nat.zero_le _)) fn r₁ hx hk (.inl hcl) j.st _ _ ?_)
 intro _ h₂ t₂ S₂ r₂ _ x₂ v₂
 exact wpAny_pure (out .next h₂ t₂ S₂ r₂ trivial x₂ v₂)
end
noncomputable def Jg (t : AEnv → Res Bool) (b : AEnv → Res Fl) : Nat → AEnv → Res Fl
 | 0, _ => .stuck
 | n + 1, ρ => (t ρ).bind fun c ρ₁ => if c then (b ρ₁).bind fun fl ρ₂ => (match fl with
   | .next => Jg t b n ρ₂
   | .cont => Jg t b n ρ₂
   | .brk => .ok .next ρ₂
   | .ret t => .ok (.ret t) ρ₂) else .ok .next ρ₁
noncomputable def Oe (n : Nat) (t : AEnv → Res Bool) (b : AEnv → Res Fl) : AEnv → Res Fl := Jg t b n
section
variable {G : Gd} {k : Nat} {sc : Scope} {cx : Cx} {ρ ρ₀ : AEnv} {S S₀ : Addr → Prop} {s₀ s : Shared}
theorem W1 {C e : Addr} {E : Value → Shared → Prop} (ok : CxOk G cx sc k) (r₀ : Rel G cx sc ρ₀ S₀ s₀.heap) (r : Rel G cx sc ρ S s.heap) (x : Ext S₀ s₀.heap S s.heap) (f : Fly s₀.heap s.heap e C) (hs : ∃ h tk, s = { s₀ with heap := h, toks := tk })
  (hE : ∀ h' tk, Rel G cx sc ρ S h' → We s₀.heap h' e C → Ext S₀ s₀.heap S h' → E (.ref e) { s₀ with heap := h', toks := tk }) : notedBy G.M cx.A cx.env E (.ref e) s := by
 obtain ⟨h, tk, rfl⟩ := hs
 unfold notedBy
 exact WD (B := G.B) ok.fr r.ff ok.top f x.dom fun h' k' f' => hE h' tk (r₀.kpE r k' f f') f' (x.kpE k' f)
theorem KR {C e : Addr} {E : Value → Shared → Prop} (r₀ : Rel G cx sc ρ₀ S₀ s₀.heap) (r : Rel G cx sc ρ S s.heap) (x : Ext S₀ s₀.heap S s.heap) (f : We s₀.heap s.heap e C) (hs : ∃ h tk, s = { s₀ with heap := h, toks := tk })
  (hE : ∀ h' tk, Rel G cx sc ρ S h' → We s₀.heap h' e C → Ext S₀ s₀.heap S h' → E (.ref e) { s₀ with heap := h', toks := tk }) : cameBackBy G.M cx.A cx.env E (.ref e) s := by
 obtain ⟨h, tk, rfl⟩ := hs
 unfold cameBackBy
 have f0 := f
 obtain ⟨_, oe, vs, T, oT, ts, he, _, _, hd, _, h1, _⟩ := f0
 refine wpAny_bind (wpAny_field he hd h1 ?_)
 rw [if_neg (by simp)]
 exact Wy (B := G.B) f fun h' k' f' => hE h' tk (r₀.kpE r k' f.fly f') f' (x.kpE k' f.fly)
theorem Cy {test : Expr} {body : List Stmt} {pos : Pos} {n : Nat} {t : AEnv → Res Bool} {b : AEnv → Res Fl} (ht : YD G k sc test t) (hb : YI G k sc body b) : Yk G k sc (.While test body [] pos) (Oe n t b) := by
 intro cx ok fn ρ S s r Q E out
 refine wpAny_While ?_
 obtain ⟨Inv, hI⟩ : ∃ Inv : Nat → Shared → Prop, ∀ m s', Inv m s' ↔ ∃ ρ' S', Rel G cx sc ρ' S' s'.heap ∧ Ext S s.heap S' s'.heap ∧ (∃ h tk, s' = { s with heap := h, toks := tk }) ∧ Out G cx sc false S s (fun S' h' a b => FlJ cx S' h' a b) Q E (Jg t b m ρ') := ⟨_, fun _ _ => Iff.rfl⟩
 refine codeAny_whileLoop Inv ?_ n ((hI _ _).mpr ⟨ρ, S, r, Ext.refl .., ⟨s.heap, s.toks, rfl⟩, out⟩)
 intro m s' hinv
 obtain ⟨ρ', S', r', x', hs', out'⟩ := (hI _ _).mp hinv
 obtain ⟨h', tk', rfl⟩ := hs'
 cases m with
 | zero => exact out'.elim
 | succ m =>
  simp only [Jg] at out'
  have step := (ht cx ok ρ' S' { s with heap := h', toks := tk' } r').loose (same := false)
  refine step _ _ ?_
  cases h1 : t ρ' with
  | stuck => rw [h1] at out'; exact out'.elim
  | exc C ρ₁ =>
   rw [h1] at out'
   intro e h₁ t₁ S₁ r₁ f₁ x₁
   refine W1 ok r r₁ (x'.trans x₁) (f₁.back x') ⟨h₁, t₁, rfl⟩ fun h₂ t₂ r₂ f₂ x₂ => ?_
   exact KR r r₂ x₂ f₂ ⟨h₂, t₂, rfl⟩ fun h₃ t₃ r₃ f₃ x₃ => out' e h₃ t₃ S₁ r₃ f₃.fly x₃
  | ok c ρ₁ =>
   rw [h1] at out'
   intro a h₁ t₁ S₁ r₁ j₁ x₁ _
   subst j₁
   cases a with
   | false =>
    simp only [Bool.false_eq_true, if_false]
    exact wpAny_pure (out' .next h₁ t₁ S₁ r₁ trivial (x'.trans x₁) fun q => by cases q)
   | true =>
    simp only [if_true]
    refine hb cx ok fn ρ₁ S₁ { s with heap := h₁, toks := t₁ } r₁ _ _ ?_
    simp only [Res.bind, if_true] at out'
    cases h2 : b ρ₁ with
    | stuck => rw [h2] at out'; exact out'.elim
    | exc C ρ₂ =>
     rw [h2] at out'
     intro e h₂ t₂ S₂ r₂ f₂ x₂
     refine W1 ok r r₂ ((x'.trans x₁).trans x₂) (f₂.back (x'.trans x₁)) ⟨h₂, t₂, rfl⟩ fun h₃ t₃ r₃ f₃ x₃ => ?_
     exact KR r r₃ x₃ f₃ ⟨h₃, t₃, rfl⟩ fun h₄ t₄ r₄ f₄ x₄ => out' e h₄ t₄ S₂ r₄ f₄.fly x₄
    | ok fl ρ₂ =>
     rw [h2] at out'
     intro a h₂ t₂ S₂ r₂ j₂ x₂ _
     have xx := (x'.trans x₁).trans x₂
     cases a <;> cases fl <;> first
      | exact j₂.elim
      | exact ⟨m, Nat.lt_succ_self _, (hI _ _).mpr ⟨ρ₂, S₂, r₂, xx, ⟨h₂, t₂, rfl⟩, out'⟩⟩
      | exact out' _ h₂ t₂ S₂ r₂ j₂ xx fun q => by cases q
end
end Mine
end

section
set_option Elab.async false
set_option maxRecDepth 100000
namespace Mine
open PySem
inductive FOut where
 | ok (t : T)
 | exc (C : Addr)
 | stuck
noncomputable def BX (S : Addr → Prop) (h : Heap) : Prop := ∀ b, S b → ∃ o, h.get? b = some o
noncomputable def Gs (h : Heap) (S : Addr → Prop) (h' : Heap) (v : Value) : T → Prop
 | .sh d => RV S h' v d
 | .ow _ d => ∃ a, v = .ref a ∧ h.get? a = none ∧ ¬ S a ∧ XW S h' a d
noncomputable def Gh (G : Gd) (S : Addr → Prop) (s : Shared) (R : Result → Shared → Prop) : FOut → Prop
 | .ok t => ∀ v h' tk S', Kp s.heap h' → G.B.StaysIn h' → (∀ b, S b → S' b) → (∀ b, S' b → S b ∨ s.heap.get? b = none) → BX S' h' → Gs s.heap S' h' v t → R (.ok (.ret v)) { s with heap := h', toks := tk }
 | .exc C => ∀ e h' tk, Kp s.heap h' → G.B.StaysIn h' → We s.heap h' e C → R (.error (.ref e)) { s with heap := h', toks := tk }
 | .stuck => False
noncomputable def Zt (G : Gd) (k : Nat) (g : Value) (F : List D → FOut) : Prop :=
 ∀ (A : Around) (fs : List Env) (S : Addr → Prop) (s : Shared) (vs : List Value) (ds : List D), Vz A k → A.frames = some fs → (G.quiet = true → A.handled = none) → (∀ v, A.handled = some v → ∃ C, RV S s.heap v (.exc C)) → FF G.B s.heap fs → G.B.StaysIn s.heap → BX S s.heap → RVs S s.heap vs ds →
  ∀ R, Gh G S s R (F ds) → codeAny G.M A (.call g ⟨vs, []⟩) R s
noncomputable def Z9 (sc : Scope) (ps : List Str) (ds : List D) : AEnv := (Qf sc).map fun x => ((ps.zip ds).lookup x).map T.sh
noncomputable def Em : Res Fl → FOut
 | .ok (.ret t) _ => .ok t
 | .ok .next _ => .ok (.sh .none)
 | .ok _ _ => .stuck
 | .exc C _ => .exc C
 | .stuck => .stuck
noncomputable def EG (sc : Scope) (ps : List Str) (f : AEnv → Res Fl) (ds : List D) : FOut := if ds.length = ps.length then Em (f (Z9 sc ps ds)) else .stuck
theorem Op (K : Str → Option NameKind) : ∀ (binds : List (Str × Value)) (m : Str → Option Value) (y : Str), (binds.map (·.1)).Nodup → bindL K binds m y = if K y = some .local then (match binds.lookup y with | some v => some v | none => m y) else m y
 | [], m, y, _ => by simp [bindL]
 | (n, v) :: r, m, y, nd => by
  have nd' : n ∉ r.map (·.1) ∧ (r.map (·.1)).Nodup := by simpa using nd
  rw [bindL, Op K r _ y nd'.2]
  by_cases hy : y = n
  ·subst hy
   have hn : r.lookup y = none := by
    rw [List.lookup_eq_none_iff]
    intro p hp
    have : p.1 ≠ y := fun q => nd'.1 (q ▸ List.mem_map_of_mem (f := (·.1)) hp)
    simpa using this.symm
   by_cases hk : K y = some .local
   ·simp [hk, hn, List.lookup_cons]
   ·simp [hk]
  ·have hb : (y == n) = false := by simpa using hy
   by_cases hk : K y = some .local
   ·rw [if_pos hk, if_pos hk, List.lookup_cons, hb]
    cases r.lookup y with
    | some w => rfl
    | none =>
     simp only
     split
     ·simp [hy]
     ·rfl
   ·rw [if_neg hk, if_neg hk]
    split
    ·simp [hy]
    ·rfl
theorem Ol (K : Str → Option NameKind) : ∀ (binds : List (Str × Value)) (m : Str → Option Value) (y : Str), (binds.map (·.1)).Nodup → bindC K binds m y = if K y = some .local then m y else (match binds.lookup y with | some v => some v | none => m y)
 | [], m, y, _ => by simp [bindC]
 | (n, v) :: r, m, y, nd => by
  have nd' : n ∉ r.map (·.1) ∧ (r.map (·.1)).Nodup := by simpa using nd
  rw [bindC, Ol K r _ y nd'.2]
  by_cases hy : y = n
  ·subst hy
   have hn : r.lookup y = none := by
    rw [List.lookup_eq_none_iff]
    intro p hp
    have : p.1 ≠ y := fun q => nd'.1 (q ▸ List.mem_map_of_mem (f := (·.1)) hp)
    simpa using this.symm
   by_cases hk : K y = some .local
   ·simp [hk]
   ·simp [hk, hn, List.lookup_cons]
  ·have hb : (y == n) = false := by simpa using hy
   by_cases hk : K y = some .local
   ·rw [if_pos hk, if_pos hk]
    split
    ·rfl
    ·simp [hy]
   ·rw [if_neg hk, if_neg hk, List.lookup_cons, hb]
    cases r.lookup y with
    | some w => rfl
    | none =>
     simp only
     split
     ·rfl
     ·simp [hy]
theorem K3 {S : Addr → Prop} {h : Heap} {y : Str} : ∀ {ps : List Str} {vs : List Value} {ds : List D}, RVs S h vs ds → ∀ {d : D}, (ps.zip ds).lookup y = some d → ∃ v, (ps.zip vs).lookup y = some v ∧ RV S h v d
 | [], _, _, _, d, e => by simp at e
 | p :: ps, _, _, .nil, d, e => by simp at e
 | p :: ps, _, _, .cons (v := v) q r, d, e => by
  rw [List.zip_cons_cons, List.lookup_cons] at e ⊢
  cases hb : y == p with
  | true => rw [hb] at e; cases e; exact ⟨v, rfl, q⟩
  | false => rw [hb] at e; exact K3 r e
theorem Kx {y : Str} {v : Value} : ∀ {ps : List Str} {vs : List Value}, (ps.zip vs).lookup y = some v → v ∈ vs ∧ y ∈ ps
 | [], _, e => by simp at e
 | _ :: _, [], e => by simp at e
 | p :: ps, w :: vs, e => by
  rw [List.zip_cons_cons, List.lookup_cons] at e
  cases hb : y == p with
  | true => rw [hb] at e; cases e; exact ⟨.head _, by rw [beq_iff_eq.mp hb]; exact .head _⟩
  | false => rw [hb] at e; have := Kx e; exact ⟨.tail _ this.1, .tail _ this.2⟩
theorem JI {α β : Type} : ∀ (ps : List α) (vs : List β), vs.length = ps.length → (ps.zip vs).map (·.1) = ps
 | [], [], _ => rfl
 | p :: ps, v :: vs, h => by rw [List.zip_cons_cons, List.map_cons, JI ps vs (by simpa using h)]
 | [], _ :: _, h => by simp at h
 | _ :: _, [], h => by simp at h
set_option tactic.hygienic true in
theorem Ye {x : Str} : ∀ (names : List (Str × NameKind)) (n : Nat) (acc : List (Str × Addr)), names.lookup x = some .cell ∨ (acc.lookup x).isSome = true → ((cellsFrom n names acc).lookup x).isSome = true
 | [], _, _, h => h.elim (fun e => by cases e) id
 | (y, k) :: r, n, acc, h => by
  unfold cellsFrom
  split
  ·rename_i hk
   refine Ye r (n + 1) ((y, n) :: acc) ?_
   cases hy : x == y with
   | true => exact .inr (by rw [List.lookup_cons, hy]; rfl)
   | false =>
    rcases h with h | h
    ·rw [List.lookup_cons, hy] at h; exact .inl h
    ·exact .inr (by rw [List.lookup_cons, hy]; exact h)
  ·rename_i hk
   refine Ye r n acc ?_
   cases hy : x == y with
   | true =>
    rcases h with h | h
    ·rw [List.lookup_cons, hy] at h
     exact absurd (by rw [Option.some.inj h]; rfl) hk
    ·exact .inr h
   | false =>
    rcases h with h | h
    ·rw [List.lookup_cons, hy] at h; exact .inl h
    ·exact .inr h
theorem Fk {G : Gd} (hG : G.Ok) {k : Nat} {a : Addr} {fo : Obj} {fd : FuncData} {body : List Stmt} {ps : List Str} (hfo : G.B.get? a = some fo) (hfd : fo.data = .func fd) (hcode : G.B.CodeRec fd.code fd.qualname) (hbody : fd.body = .stmts body) (hclo : fd.closure = [])
  (hgl : fd.globals = mainGlobals) (hbl : fd.builtins = builtinsNs) (hbind : ∀ vs : List Value, vs.length = ps.length → bindArgs fd ⟨vs, []⟩ = pure (ps.zip vs))
  (hps : ∀ x ∈ ps, fd.scope.names.lookup x = some .local ∨ fd.scope.names.lookup x = some .cell) (hpn : ps.Nodup) (hnd : (Qf fd.scope).Nodup) (hkind : fd.scope.kind = .function) (hco : fd.scope.isCoroutine = false) (hgen : fd.scope.isGenerator = false)
  {A : Around} {fs : List Env} {S : Addr → Prop} {s : Shared} {vs : List Value} {ds : List D} {R : Result → Shared → Prop} (room : Vz A (k + 1)) (fr : A.frames = some fs) (hd : G.quiet = true → A.handled = none) (hok : ∀ v, A.handled = some v → ∃ C, RV S s.heap v (.exc C)) (ff : FF G.B s.heap fs) (hB : G.B.StaysIn s.heap) (sd : BX S s.heap) (rv : RVs S s.heap vs ds) (hlen : ds.length = ps.length)
  (h : ∀ (cx : Cx) (h₁ : Heap) (tk₁ : Nat), CxOk G cx fd.scope k → FnOk G cx → cx.h₀ = s.heap → cx.P = S → cx.fs.tail = fs → cx.env.frame = some cx.env.locals → Rel G cx fd.scope (Z9 fd.scope ps ds) S h₁ → (∀ b o, s.heap.get? b = some o → h₁.get? b = some o) →
   wpAny G.M cx.A (execs body cx.env) (fun f s' => R (.ok (.ret (match f with | .ret v => v | _ => .none))) s') (fun e s' => wpAny G.M cx.A (leaving cx.env e) (fun _ s'' => R (.error e) s'') (fun e' s'' => R (.error e') s'') s') { s with heap := h₁, toks := tk₁ }) :
  codeAny G.M A (.call (.ref a) ⟨vs, []⟩) R s := by
 have hvl : vs.length = ps.length := rv.length.trans hlen
 refine codeAny_call_cells (fd := fd) (binds := ps.zip vs) (by have := room.1; unfold recursionLimit; omega) (hB _ _ hfo) hfd (hG.nolimit.keeps hB) (let ⟨c, o, ws, t, e1, e2, e3, e4⟩ := hcode; ⟨c, o, ws, t, e1, hB _ _ e2, e3, e4⟩) hbody (hbind vs hvl) hclo
  (fun x hx => ?_) (fun s₁ X => ?_) hco hgen hkind
 ·have hm : x.1 ∈ ps := by rw [← JI ps vs hvl]; exact List.mem_map_of_mem hx
  exact (hps _ hm).imp id fun q => ⟨q, Ye _ _ _ (.inl q)⟩
 have D1 := X.toInCall.done
 obtain ⟨h₁, tk₁, rfl, hk₁⟩ := D1
 have nd : ((ps.zip vs).map (·.1)).Nodup := by rw [JI ps vs hvl]; exact hpn
 have hLn : s.heap.get? s.heap.objs.size = none := Heap.get?_none_of_le (Nat.le_refl _)
 have hBn : G.B.get? s.heap.objs.size = none := by
  cases q : G.B.get? s.heap.objs.size with
  | none => rfl
  | some o => rw [hB _ _ q] at hLn; cases hLn
 let cx : Cx := { A := A.deeper (callEnvC fd s.heap.objs.size a), env := callEnvC fd s.heap.objs.size a, fs := callEnvC fd s.heap.objs.size a :: fs, h₀ := s.heap, P := S }
 have ok : CxOk G cx fd.scope k := { hsc := rfl, hk := hkind, hg := hgl, hb := hbl, fr := by show (A.deeper _).frames = _; unfold Around.deeper; rw [fr]; rfl, top := ⟨_, fs, rfl, rfl⟩, hd := hd, room := ⟨by have := room.1; show A.depth + 1 + k ≤ 900; omega, by have := room.2; show A.units + 3 + 8 * k ≤ 9000; omega⟩, nodup := hnd }
 have above : ∀ x c, cx.env.cells.lookup x = some c → s.heap.objs.size < c := fun x c q => X.above x c (mem_of_lookup q)
 have fn : FnOk G cx := { bh := hB, lnew := hLn, cap := fun x y c q q' _ => name_of_addr X.apart (mem_of_lookup q) (mem_of_lookup q'), loc := fun x c q => Nat.ne_of_gt (above x c q), has := fun x q => let ⟨c, hc⟩ := Option.isSome_iff_exists.mp (Ye _ _ _ (.inl q)); ⟨c, hc, Heap.get?_none_of_le (Nat.le_of_lt (above x c hc))⟩ }
 have vals : ∀ y v, Var cx.env h₁ y v → v ∈ vs := fun y v q => by
  rcases q with ⟨q1, m, n, e⟩ | ⟨q1, c, q2, n⟩
  ·have := X.toInCall.ns.agree n y
   rw [e, Op _ _ _ _ nd, if_pos q1] at this
   cases hl : (ps.zip vs).lookup y with
   | none => rw [hl] at this; cases this
   | some w => rw [hl] at this; cases this; exact (Kx hl).1
  ·have := IsCell.inj (X.cell y c q2) n
   rw [Ol _ _ _ _ nd, if_neg (by show ¬ cx.env.kindOf y = some .local; rcases q1 with q | q <;> (rw [q]; decide))] at this
   cases hl : (ps.zip vs).lookup y with
   | none => rw [hl] at this; cases this
   | some w => rw [hl] at this; cases this; exact (Kx hl).1
 have r₀ : Rel G cx fd.scope (Z9 fd.scope ps ds) S h₁ := {
  base := fun b o q => hk₁ b o (hB b o q)
  keep := Kp.of_keeps hk₁
  ff := fun env he => by
   rcases List.mem_cons.mp he with rfl | he
   ·obtain ⟨o, es, ep, q1, q2, _⟩ := X.toInCall.ns
    exact ⟨by show fd.scope.kind ≠ .module; rw [hkind]; decide, s.heap.objs.size, o, rfl, hBn, q1, es, ep, q2⟩
   ·exact ff.kp (Kp.of_keeps hk₁) env he
  ns := ⟨_, X.toInCall.ns⟩
  cells := fun x c q => ⟨_, X.cell x c q⟩
  sdom := fun b q => let ⟨o, e⟩ := sd b q; ⟨o, hk₁ b o e⟩
  sok := fun b q => .inl q
  sloc := fun q => by obtain ⟨o, e⟩ := sd _ q; rw [show cx.env.locals = s.heap.objs.size from rfl, hLn] at e; cases e
  scell := fun x c q q' => by obtain ⟨o, e⟩ := sd _ q'; rw [show s.heap.get? c = none from Heap.get?_none_of_le (Nat.le_of_lt (above x c q))] at e; cases e
  live := fun x b _ q => by
   obtain ⟨d, _, rvd⟩ := rv.mem (vals x _ q)
   obtain ⟨o, e⟩ := rvd.live b rfl
   exact ⟨o, hk₁ b o e⟩
  clean := fun i x m d hx hi => by
   unfold Z9 at hi
   rw [List.getElem?_map, hx] at hi
   simp only [Option.map_some, Option.some.injEq] at hi
   cases hl : (ps.zip ds).lookup x with
   | none => rw [hl] at hi; cases hi
   | some d => rw [hl] at hi; cases hi
  hok := fun v q => let ⟨C, e⟩ := hok v q; ⟨C, e.ext (Ext.of_keeps hk₁)⟩
  vars := fun i x t hx ht => by
   unfold Z9 at ht
   rw [List.getElem?_map, hx] at ht
   simp only [Option.map_some, Option.some.injEq] at ht
   cases hl : (ps.zip ds).lookup x with
   | none => rw [hl] at ht; cases ht
   | some d =>
    rw [hl] at ht; cases ht
    obtain ⟨v, hv, rvd⟩ := K3 rv hl
    refine ⟨v, ?_, rvd.ext (Ext.of_keeps hk₁)⟩
    rcases hps x (Kx hv).2 with q | q
    ·refine .inl ⟨q, _, X.toInCall.ns, ?_⟩
     rw [Op _ _ _ _ nd, if_pos (show (callEnvC fd s.heap.objs.size a).kindOf x = some .local from q), hv]
    ·obtain ⟨c, hc⟩ := Option.isSome_iff_exists.mp (Ye fd.scope.names (s.heap.objs.size + 1) [] (.inl q) : ((cellsFrom (s.heap.objs.size + 1) fd.scope.names []).lookup x).isSome = true)
     refine .inr ⟨.inl q, c, hc, ?_⟩
     have := X.cell x c hc
     rw [Ol _ _ _ _ nd, if_neg (show ¬ (callEnvC fd s.heap.objs.size a).kindOf x = some .local from by rw [show (callEnvC fd s.heap.objs.size a).kindOf x = some .cell from q]; decide), hv] at this
     exact this
  inj := fun i j x y m m' d d' v hx hy hi hj _ _ => by
   unfold Z9 at hi
   rw [List.getElem?_map, hx] at hi
   simp only [Option.map_some, Option.some.injEq] at hi
   cases hl : (ps.zip ds).lookup x with
   | none => rw [hl] at hi; cases hi
   | some d => rw [hl] at hi; cases hi
  dok := fun i x m ks es hx hi => by
   unfold Z9 at hi
   rw [List.getElem?_map, hx] at hi
   simp only [Option.map_some, Option.some.injEq] at hi
   cases hl : (ps.zip ds).lookup x with
   | none => rw [hl] at hi; cases hi
   | some d => rw [hl] at hi; cases hi }
 exact h cx h₁ tk₁ ok fn rfl rfl rfl rfl r₀ hk₁
set_option tactic.hygienic true in
theorem FX {G : Gd} (hG : G.Ok) {k : Nat} {a : Addr} {fo : Obj} {fd : FuncData} {body : List Stmt} {f : AEnv → Res Fl} {ps : List Str} (hfo : G.B.get? a = some fo) (hfd : fo.data = .func fd) (hcode : G.B.CodeRec fd.code fd.qualname) (hbody : fd.body = .stmts body) (hclo : fd.closure = [])
  (hgl : fd.globals = mainGlobals) (hbl : fd.builtins = builtinsNs) (hbind : ∀ vs : List Value, vs.length = ps.length → bindArgs fd ⟨vs, []⟩ = pure (ps.zip vs))
  (hps : ∀ x ∈ ps, fd.scope.names.lookup x = some .local ∨ fd.scope.names.lookup x = some .cell) (hpn : ps.Nodup) (hnd : (Qf fd.scope).Nodup) (hkind : fd.scope.kind = .function) (hco : fd.scope.isCoroutine = false) (hgen : fd.scope.isGenerator = false)
  (h : YI G k fd.scope body f) : Zt G (k + 1) (.ref a) (EG fd.scope ps f) := by
 intro A fs S s vs ds room fr hd hok ff hB sd rv R fin
 unfold EG at fin
 split at fin
 rotate_left
 ·exact fin.elim
 rename_i hlen
 refine Fk hG (body := body) (ps := ps) hfo hfd hcode hbody hclo hgl hbl hbind hps hpn hnd hkind hco hgen room fr hd hok ff hB sd rv hlen fun cx h₁ tk₁ ok fn e₀ eP _ _ r₀ hk₁ => ?_
 refine h cx ok fn (Z9 fd.scope ps ds) S { s with heap := h₁, toks := tk₁ } r₀ _ _ ?_
 cases hf : f (Z9 fd.scope ps ds) with
 | stuck => rw [hf] at fin; exact fin.elim
 | exc C ρ' =>
  rw [hf] at fin
  intro e h₂ t₂ S₂ r₂ f₂ x₂
  refine K8 (B := G.B) (h := h₁) (s := { s with heap := h₂, toks := t₂ }) ok.fr r₂.ff ok.top f₂ x₂.dom fun h₃ k₃ f₃ => ?_
  have r₃ := r₀.kpE r₂ k₃ f₂ f₃
  refine fin e h₃ t₂ (e₀ ▸ r₃.keep) r₃.base ?_
  obtain ⟨n, oe, ws, T, oT, ts, a1, a2, a0, a3, a4, a5, a6, a7, a8⟩ := f₃
  have back : ∀ b, h₁.get? b = none → s.heap.get? b = none := fun b q => by
   cases q' : s.heap.get? b with
   | none => rfl
   | some o => rw [hk₁ b o q'] at q; cases q
  exact ⟨back e n, oe, ws, T, oT, ts, a1, a2, a0, a3, a4, a5, a6, back T a7, a8⟩
 | ok fl ρ' =>
  rw [hf] at fin
  intro v h₂ t₂ S₂ r₂ j₂ x₂ _
  have back : ∀ b, S₂ b → S b ∨ s.heap.get? b = none := by have := r₂.sok; rw [e₀, eP] at this; exact this
  cases v <;> cases fl <;> first
   | exact j₂.elim
   | exact fin.elim
   | exact fin .none h₂ t₂ S₂ (e₀ ▸ r₂.keep) r₂.base x₂.sub back r₂.sdom .none
   | skip
  rename_i v t
  refine fin v h₂ t₂ S₂ (e₀ ▸ r₂.keep) r₂.base x₂.sub back r₂.sdom ?_
  cases t with
  | sh d => exact j₂
  | ow m d => obtain ⟨b, e, n1, ow, n2⟩ := j₂; exact ⟨b, e, e₀ ▸ n2, n1, ow⟩
end Mine
end

section
set_option Elab.async false
set_option maxRecDepth 100000
namespace Mine
open PySem
inductive BVals (cx : Cx) (sc : Scope) (S : Addr → Prop) (h : Heap) : List Value → List Bv → Prop
 | nil : BVals cx sc S h [] []
 | cons {v : Value} {b : Bv} {vs : List Value} {bs : List Bv} : Z6 cx sc S h v b → BVals cx sc S h vs bs → BVals cx sc S h (v :: vs) (b :: bs)
noncomputable def YH (G : Gd) (k : Nat) (sc : Scope) (es : List Expr) (f : AEnv → Res (List Bv)) : Prop :=
 ∀ pos cx, CxOk G cx sc k → ∀ ρ S s, Rel G cx sc ρ S s.heap → Qq G cx sc true (spliced (backTo pos (starEach es cx.env))) S s (fun S' h' vs bs => BVals cx sc S' h' vs bs) (f ρ)
noncomputable def Qj : AEnv → Res (List Bv) := fun ρ => .ok [] ρ
noncomputable def Qa (f : AEnv → Res Bv) (g : AEnv → Res (List Bv)) : AEnv → Res (List Bv) := fun ρ => (f ρ).bind fun b ρ₁ => (g ρ₁).bind fun bs ρ₂ => .ok (b :: bs) ρ₂
theorem Qe {G : Gd} {k : Nat} {sc : Scope} : YH G k sc [] Qj := fun _ _ _ _ _ _ r => Qq.pure r .nil
theorem B3 {G : Gd} {k : Nat} {sc : Scope} {e : Expr} {rest : List Expr} {f : AEnv → Res Bv} {g : AEnv → Res (List Bv)} (he : Qg G k sc e f) (hr : YH G k sc rest g) (hs : QU e = true) : YH G k sc (e :: rest) (Qa f g) := by
 intro pos cx ok ρ S s r
 rw [ZP hs]
 refine Qq.bind (he cx ok ρ S s r) fun b ρ₁ v h₁ t₁ S₁ _ r₁ j₁ x₁ v₁ => ?_
 intro Q E out
 refine wpAny_bind (wpAny_pure ?_)
 refine (Qq.bind (J' := fun S' h' vs bs => BVals cx sc S' h' vs bs) (Qq.holding (hr pos cx ok ρ₁ S₁ { s with heap := h₁, toks := t₁ } r₁)) fun bs ρ₂ vs h₂ t₂ S₂ _ r₂ j₂ x₂ v₂ => ?_) Q E out
 exact Qq.pure r₂ (.cons (Z6.ext j₁ x₂ (v₂ rfl)) j₂)
noncomputable def XM (ρ : AEnv) : List Bv → Option (List D)
 | [] => some []
 | b :: bs => match b.get ρ, XM ρ bs with
  | some d, some ds => some (d :: ds)
  | _, _ => none
noncomputable def ZQ (ρ : AEnv) : Bv → Bool
 | .val _ => true
 | .var i => match ρ[i]? with
  | some (some (.sh _)) => true
  | _ => false
mutual
noncomputable def Qk : D → Bool
 | .list _ => false
 | .obj _ _ _ => false
 | .tup ds => UG ds
 | _ => true
noncomputable def UG : List D → Bool
 | [] => true
 | d :: ds => Qk d && UG ds
end
theorem RV.free {S S' : Addr → Prop} {h : Heap} {v : Value} {d : D} (q : RV S h v d) : Qk d = true → RV S' h v d :=
 RV.rec (motive_1 := fun v d _ => Qk d = true → RV S' h v d) (motive_2 := fun vs ds _ => UG ds = true → RVs S' h vs ds) (fun _ => .none) (fun b _ => .bool b) (fun i t _ => .int i t) (fun y t _ => .str y t) (fun e hc hd _ r q => .tup e hc hd (r (by rw [Qk] at q; exact q)))
  (fun _ _ _ _ _ _ q => by rw [Qk] at q; cases q) (fun e _ => .range e) (fun e hc hn hd r _ => .exc e hc hn hd r) (fun v hv _ => .glob v hv) (fun _ _ _ _ _ _ _ q => by rw [Qk] at q; cases q) (fun _ => .nil)
  (fun _ _ a b e => by rw [UG] at e; obtain ⟨e1, e2⟩ := Bool.and_eq_true_iff.mp e; exact .cons (a e1) (b e2)) q
section
variable {G : Gd} {cx : Cx} {sc : Scope} {ρ : AEnv} {S S' : Addr → Prop} {h h' : Heap}
set_option tactic.hygienic true in
theorem BVals.rvs {vs : List Value} {bs : List Bv} (q : BVals cx sc S h vs bs) (r : Rel G cx sc ρ S h) (hs : bs.all (ZQ ρ) = true) : ∀ {ds : List D}, XM ρ bs = some ds → RVs S h vs ds := by
 induction q with
 | nil => intro ds e; cases e; exact .nil
 | cons hb _ ih =>
  intro ds e
  rename_i v b vs bs _
  rw [XM] at e
  rw [List.all_cons, Bool.and_eq_true_iff] at hs
  split at e
  ·rename_i d ds' hd hds
   cases e
   refine .cons ?_ (ih hs.2 hds)
   cases b with
   | val d' => cases hd; exact hb
   | var i =>
    obtain ⟨y, hy, hv⟩ := hb
    have h1 := hs.1
    simp only [ZQ] at h1
    simp only [Bv.get] at hd
    split at h1
    ·rename_i d' ht
     rw [ht] at hd
     cases hd
     obtain ⟨w, hw, tv⟩ := r.vars i y _ hy ht
     rw [Var.inj hv hw]; exact tv
    ·cases h1
  ·cases e
set_option tactic.hygienic true in
theorem BVals.dom {vs : List Value} {bs : List Bv} (q : BVals cx sc S h vs bs) (r : Rel G cx sc ρ S h) : ∀ {ds : List D}, XM ρ bs = some ds → RVs (fun b => ∃ o, h.get? b = some o) h vs ds := by
 induction q with
 | nil => intro ds e; cases e; exact .nil
 | cons hb _ ih =>
  intro ds e
  rename_i v b vs bs _
  rw [XM] at e
  split at e
  ·rename_i d ds' hd hds
   cases e
   refine .cons ?_ (ih hds)
   cases hb.rb r hd with
   | of q => exact q.ext (Ext.grow r.sdom)
   | own q =>
    unfold XW at q
    split at q
    ·obtain ⟨vs, n, e, rv⟩ := q; exact .list ⟨_, e⟩ e ⟨rfl, rfl, rfl⟩ rfl (rv.ext (Ext.grow r.sdom))
    ·exact q.elim
  ·cases e
theorem Rel.kpS (r : Rel G cx sc ρ S h) (k : Kp h h') (hb : G.B.StaysIn h') (sub : ∀ b, S b → S' b) (new : ∀ b, S' b → S b ∨ h.get? b = none) (sd : BX S' h') : Rel G cx sc ρ S' h' ∧ Ext S h S' h' := by
 have x : Ext S h S' h' := ⟨sub, fun b o e _ => k b o e, fun b o e => k.dom e⟩
 have r' := r.kp k hb
 refine ⟨⟨hb, r'.keep, r'.ff, r'.ns, r'.cells, sd, fun b q => ?_, fun q => ?_, fun y c e q => ?_, r'.live, r'.clean, fun v q => let ⟨C, e⟩ := r.hok v q; ⟨C, e.ext x⟩, fun i y t hy ht => ?_, r'.inj, r'.dok⟩, x⟩
 ·exact (new b q).elim (r.sok b) fun q => .inr (r.keep.none q)
 ·rcases new _ q with q | q
  ·exact r.sloc q
  ·obtain ⟨m, o, _, _, e, _⟩ := r.ns; rw [q] at e; cases e
 ·rcases new _ q with q | q
  ·exact r.scell y c e q
  ·obtain ⟨v, o, e', _⟩ := r.cells y c e; rw [q] at e'; cases e'
 ·obtain ⟨v, hv, tv⟩ := r.vars i y t hy ht
  refine ⟨v, hv.kp k, ?_⟩
  cases t with
  | sh d => exact RV.ext x tv
  | ow m d =>
   obtain ⟨a, rfl, n1, ow, n2⟩ := tv
   obtain ⟨o, ho, _⟩ := ow.live
   refine ⟨a, rfl, fun q => ?_, ow.ext x fun o' e' => k a o' e', n2⟩
   rcases new _ q with q | q
   ·exact n1 q
   ·rw [q] at ho; cases ho
end
noncomputable def ZS (bs : List Bv) (ρ : AEnv) : FOut → Res T
 | .ok t => if bs.all (ZQ ρ) then .ok t ρ else if Qk t.val then .ok (.sh t.val) ρ else .stuck
 | .exc C => .exc C ρ
 | .stuck => .stuck
noncomputable def QF (F : List D → FOut) (fa : AEnv → Res (List Bv)) : AEnv → Res T := fun ρ => (fa ρ).bind fun bs ρ₁ => match XM ρ₁ bs with
 | some ds => ZS bs ρ₁ (F ds)
 | none => .stuck
section
variable {G : Gd} {k : Nat} {sc : Scope}
set_option tactic.hygienic true in
theorem KW {cx : Cx} {ρ : AEnv} {S : Addr → Prop} {s : Shared} {g : Value} {F : List D → FOut} {vs : List Value} {bs : List Bv} {ds : List D} {k' : Nat} (hF : Zt G k' g F) (ok : CxOk G cx sc k) (hk : k' ≤ k) (r : Rel G cx sc ρ S s.heap) (q : BVals cx sc S s.heap vs bs) (e : XM ρ bs = some ds) :
  Qq G cx sc true (call g vs []) S s (fun S' h' v t => Jp cx S' h' v t) (ZS bs ρ (F ds)) := by
 intro Q E out
 refine wpAny_call ?_
 by_cases hs : bs.all (ZQ ρ) = true
 ·refine hF cx.A cx.fs S s vs ds (ok.room.mono hk) ok.fr ok.hd r.hok r.ff r.base r.sdom (q.rvs r hs e) _ ?_
  cases hf : F ds with
  | stuck => rw [hf] at out; exact out.elim
  | exc C =>
   rw [hf] at out
   intro ee h' tk kp hb fl
   exact out ee h' tk S (r.kp kp hb) fl.fly (Ext.of_kp kp)
  | ok t =>
   rw [hf] at out
   simp only [ZS] at out
   rw [if_pos hs] at out
   intro v h' tk S' kp hb sub new sd ret
   obtain ⟨r', x'⟩ := r.kpS kp hb sub new sd
   refine out v h' tk S' r' ?_ x' fun _ => r.same kp
   cases t with
   | sh d => exact ret
   | ow m d =>
    obtain ⟨a, rfl, n1, n2, ow⟩ := ret
    refine ⟨a, rfl, n2, ow, r.keep.none n1, fun x hdx hx => ?_⟩
    obtain ⟨o, ho⟩ := r.live x a hdx (Var.of_kp kp r.ns r.cells hx)
    rw [n1] at ho; cases ho
 ·refine hF cx.A cx.fs (fun b => ∃ o, s.heap.get? b = some o) s vs ds (ok.room.mono hk) ok.fr ok.hd (fun v q => let ⟨C, e⟩ := r.hok v q; ⟨C, e.ext (Ext.grow r.sdom)⟩) r.ff r.base (fun _ q => q) (q.dom r e) _ ?_
  cases hf : F ds with
  | stuck => rw [hf] at out; exact out.elim
  | exc C =>
   rw [hf] at out
   intro ee h' tk kp hb fl
   exact out ee h' tk S (r.kp kp hb) fl.fly (Ext.of_kp kp)
  | ok t =>
   rw [hf] at out
   simp only [ZS] at out
   rw [if_neg hs] at out
   split at out
   ·rename_i hfree
    intro v h' tk S' kp hb sub new sd ret
    refine out v h' tk S (r.kp kp hb) ?_ (Ext.of_kp kp) fun _ => r.same kp
    cases t with
    | sh d => exact RV.free ret hfree
    | ow m d =>
     obtain ⟨a, rfl, n1, n2, ow⟩ := ret
     exfalso
     unfold XW at ow
     split at ow
     ·simp [T.val, Qk] at hfree
     ·exact ow
   ·exact out.elim
theorem X5 {M : Model} {A : Around} {E : Value → Shared → Prop} {s : Shared} {env : Env} {pos : Pos} {f : Value} {es : List Expr} {Q : Args → Shared → Prop} (hu : es.all QU = true)
  (h : wpAny M A (spliced (backTo pos (starEach es env))) (fun vs s' => Q ⟨vs, []⟩ s') E s) : wpAny M A (evalArgs f true (backTo pos (starEach es env)) []) Q E s := by
 cases es with
 | nil =>
  unfold evalArgs
  show wpAny M A (spliced [] >>= _) Q E s
  refine wpAny_bind (wpAny_mono h (fun vs s' h' => ?_) fun _ _ x => x)
  refine wpAny_holding ?_
  exact wpAny_bind (wpAny_pure (wpAny_bind (wpAny_pure (wpAny_pure h'))))
 | cons e rest =>
  rw [List.all_cons, Bool.and_eq_true_iff] at hu
  rw [Jk hu.1] at h ⊢
  exact Calls.evalArgs_plain h
set_option tactic.hygienic true in
theorem D0 {g : Str} {p pos : Pos} {a : Addr} {fo : Obj} {fd : FuncData} {F : List D → FOut} {args : List Expr} {fa : AEnv → Res (List Bv)} {k' : Nat} (hn : Sim G k sc (.Name g p) (Qd (.glob (.ref a)))) (hfo : G.B.get? a = some fo) (hfd : fo.data = .func fd)
  (hF : Zt G k' (.ref a) F) (hk : k' ≤ k) (ha : YH G k sc args fa) (hu : args.all QU = true) : Sim G k sc (.Call (.Name g p) args [] pos) (QF F fa) := by
 intro cx ok ρ S s r Q E out
 show wpAny G.M cx.A (do callWith pos (← eval (.Name g p) cx.env) [] (backTo pos (starEach args cx.env)) []) Q E s
 refine wpAny_bind (hn cx ok ρ S s r _ _ ?_)
 intro v h₁ t₁ S₁ r₁ j₁ x₁ v₁
 have hv : v = .ref a := by cases j₁; rfl
 subst hv
 refine Calls.callWith_function (o := fo) (fd := fd) (X5 hu ?_)
 refine ha pos cx ok ρ S₁ { s with heap := h₁, toks := t₁ } r₁ _ _ ?_
 unfold QF at out
 cases hfa : fa ρ with
 | stuck => rw [hfa] at out; exact out.elim
 | exc C ρ' => rw [hfa] at out; intro e h₂ t₂ S₂ r₂ f₂ x₂; exact out e h₂ t₂ S₂ r₂ (f₂.back x₁) (x₁.trans x₂)
 | ok bs ρ' =>
  rw [hfa] at out
  simp only [Res.bind] at out
  intro vs h₂ t₂ S₂ r₂ j₂ x₂ v₂
  refine ⟨⟨r₂.base _ _ hfo, hfd⟩, ?_⟩
  split at out
  ·rename_i ds hds
   refine KW (s := { s with heap := h₂, toks := t₂ }) hF ok hk r₂ j₂ hds Q E ?_
   cases hc : ZS bs ρ' (F ds) with
   | stuck => rw [hc] at out; exact out
   | exc C ρ'' => rw [hc] at out; intro e h₃ t₃ S₃ r₃ f₃ x₃; exact out e h₃ t₃ S₃ r₃ (f₃.back (x₁.trans x₂)) ((x₁.trans x₂).trans x₃)
   | ok t ρ'' => rw [hc] at out; intro w h₃ t₃ S₃ r₃ j₃ x₃ v₃; exact out w h₃ t₃ S₃ r₃ j₃ ((x₁.trans x₂).trans x₃) fun q => ((v₁ q).trans (v₂ q)).trans (v₃ q)
  ·exact out.elim
end
end Mine
end

section
set_option Elab.async false
set_option maxRecDepth 100000
namespace Mine
open PySem
inductive RBs (S : Addr → Prop) (h : Heap) : List Value → List D → Prop
 | nil : RBs S h [] []
 | cons {v : Value} {d : D} {vs : List Value} {ds : List D} : RB S h v d → RBs S h vs ds → RBs S h (v :: vs) (d :: ds)
set_option tactic.hygienic true in
theorem BVals.all {G : Gd} {cx : Cx} {sc : Scope} {ρ : AEnv} {S : Addr → Prop} {h : Heap} {vs : List Value} {bs : List Bv} (q : BVals cx sc S h vs bs) (r : Rel G cx sc ρ S h) : ∀ {ds : List D}, XM ρ bs = some ds → RBs S h vs ds := by
 induction q with
 | nil => intro ds e; cases e; exact .nil
 | cons hb _ ih =>
  intro ds e
  rw [XM] at e
  split at e
  ·rename_i d ds' hd hds
   cases e
   exact .cons (hb.rb r hd) (ih hds)
  ·cases e
noncomputable def OpN (G : Gd) (m : List Value → Sem Value) (F : List D → Option T) : Prop :=
 ∀ cx sc, CxOk G cx sc 0 → ∀ ρ S s vs ds t, Rel G cx sc ρ S s.heap → RBs S s.heap vs ds → F ds = some t → Qq G cx sc true (m vs) S s (fun S' h' v t => Jp cx S' h' v t) (.ok t ρ)
noncomputable def QQ (F : List D → Option T) (fa : AEnv → Res (List Bv)) : AEnv → Res T := fun ρ => (fa ρ).bind fun bs ρ₁ => match XM ρ₁ bs with
 | some ds => (match F ds with | some t => .ok t ρ₁ | none => .stuck)
 | none => .stuck
theorem YW {M : Model} {A : Around} {E : Value → Shared → Prop} {s : Shared} {pos : Pos} {f : Value} {first : List Value} {args : List (Bool × Sem Value)} {Q : Value → Shared → Prop} (hf : ∀ a, f ≠ .ref a) (hplain : args.any (·.1) = false)
  (h : wpAny M A (evalArgs f true args []) (fun a s₁ => wpAny M A (call f (first ++ a.pos) a.kw) Q E s₁) E s) : wpAny M A (callWith pos f first args []) Q E s := by
 unfold callWith
 refine wpAny_bind (wpAny_holding (wpAny_mono h (fun a s₁ h₁ => wpAny_bind (wpAny_standAt ?_)) fun _ _ x => x))
 simp only [hplain, List.any_nil, Bool.or_false]
 have hk : keeperOf f = pure .machine := by
  unfold keeperOf
  cases f <;> first | rfl | exact absurd rfl (hf _)
 rw [hk]
 refine wpAny_bind (wpAny_pure ?_)
 exact wpAny_bind (wpAny_mono h₁ (fun r s₂ hr => wpAny_bind (wpAny_holding (wpAny_point (wpAny_pure hr)))) fun _ _ x => x)
theorem JJ {pos : Pos} {env : Env} : ∀ (es : List Expr), es.all QU = true → (backTo pos (starEach es env)).any (·.1) = false
 | [], _ => rfl
 | e :: r, h => by
  rw [List.all_cons, Bool.and_eq_true_iff] at h
  rw [Jk h.1]
  show (false || (backTo pos (starEach r env)).any (·.1)) = false
  rw [JJ r h.2]; rfl
section
variable {G : Gd} {k : Nat} {sc : Scope}
set_option tactic.hygienic true in
theorem Du {g : Str} {p pos : Pos} {f : Value} {F : List D → Option T} {args : List Expr} {fa : AEnv → Res (List Bv)} (hn : Sim G k sc (.Name g p) (Qd (.glob f))) (hf : ∀ a, f ≠ .ref a) (hop : OpN G (fun vs => call f vs []) F)
  (ha : YH G k sc args fa) (hu : args.all QU = true) : Sim G k sc (.Call (.Name g p) args [] pos) (QQ F fa) := by
 intro cx ok ρ S s r Q E out
 show wpAny G.M cx.A (do callWith pos (← eval (.Name g p) cx.env) [] (backTo pos (starEach args cx.env)) []) Q E s
 refine wpAny_bind (hn cx ok ρ S s r _ _ ?_)
 intro v h₁ t₁ S₁ r₁ j₁ x₁ v₁
 have hv : v = f := by cases j₁; rfl
 subst hv
 refine YW hf (JJ args hu) (X5 hu ?_)
 refine ha pos cx ok ρ S₁ { s with heap := h₁, toks := t₁ } r₁ _ _ ?_
 unfold QQ at out
 cases hfa : fa ρ with
 | stuck => rw [hfa] at out; exact out.elim
 | exc C ρ' => rw [hfa] at out; intro e h₂ t₂ S₂ r₂ f₂ x₂; exact out e h₂ t₂ S₂ r₂ (f₂.back x₁) (x₁.trans x₂)
 | ok bs ρ' =>
  rw [hfa] at out
  simp only [Res.bind] at out
  intro vs h₂ t₂ S₂ r₂ j₂ x₂ v₂
  split at out
  ·rename_i ds hds
   split at out
   ·rename_i t ht
    refine hop cx sc (ok.mono (Nat.zero_le _)) ρ' S₂ { s with heap := h₂, toks := t₂ } vs ds t r₂ (BVals.all j₂ r₂ hds) ht Q E ?_
    intro w h₃ t₃ S₃ r₃ j₃ x₃ v₃
    exact out w h₃ t₃ S₃ r₃ j₃ ((x₁.trans x₂).trans x₃) fun q => ((v₁ q).trans (v₂ q)).trans (v₃ q)
   ·exact out.elim
  ·exact out.elim
end
noncomputable def C1 (K : W.Frag) : D → Value → Option Bool
 | .none, c => W.kitOne [] (.type "NoneType") c
 | .bool _, c => W.kitOne [] (.type "bool") c
 | .int _, c => W.kitOne [] (.type "int") c
 | .str _, c => W.kitOne [] (.type "str") c
 | .tup _, c => W.kitOne [] (.type "tuple") c
 | .list _, c => W.kitOne [] (.type "list") c
 | .exc C, c => if OD K C then W.kitOne K (.ref C) c else none
 | _, _ => none
noncomputable def QV (K : W.Frag) : List D → Option T
 | [x, .glob c] => (C1 K x c).map fun b => .sh (.bool b)
 | _ => none
theorem BC {K : W.Frag} {ds : List D} {t : T} (e : QV K ds = some t) : ∃ x c, ds = [x, .glob c] ∧ (C1 K x c).map (fun b => T.sh (.bool b)) = some t := by
 cases ds with
 | nil => exact nn e
 | cons x ds =>
  cases ds with
  | nil => exact nn e
  | cons y ds =>
   cases ds with
   | nil => cases y <;> first | exact ⟨_, _, rfl, e⟩ | exact nn e
   | cons z ds => cases y <;> exact nn e
theorem QT {G : Gd} (hG : G.Ok) : OpN G (fun vs => call (.builtin "isinstance") vs []) (QV G.K) := by
 intro cx sc ok ρ S s vs ds t rel q e Q E out
 obtain ⟨x, c, rfl, e⟩ := BC e
 ·obtain ⟨b, hb, rfl⟩ := Option.map_eq_some_iff.mp e
  cases q with
  | cons qx q =>
   cases q with
   | cons qc q =>
    cases q
    have hc := qc.rv fun _ e => by cases e
    cases hc
    have nil : W.Frag.In [] s.heap := fun _ _ e => by cases e
    have fin : ∀ tk, Q (.bool b) { s with toks := tk } := fun tk => Zk out rel (.bool _)
    cases x with
    | none => rw [qx.none]; exact W.kia_one W.kitx_none nil trivial hb (fun e => by cases e) fin
    | bool i => rw [qx.bool]; exact W.kia_one W.kitx_bool nil trivial hb (fun e => by cases e) fin
    | int i => obtain ⟨_, rfl⟩ := qx.int; exact W.kia_one W.kitx_int nil trivial hb (fun e => by cases e) fin
    | str i => obtain ⟨_, rfl⟩ := qx.str; exact W.kia_one W.kitx_str nil trivial hb (fun e => by cases e) fin
    | tup ds => obtain ⟨a, o, vs, n, rfl, h1, h2, _⟩ := qx.tup; exact W.kia_one W.kitx_tuple nil ⟨o, h1, h2⟩ hb (fun e => by cases e) fin
    | list ds => obtain ⟨a, o, vs, n, rfl, h1, h2, _⟩ := qx.list; exact W.kia_one W.kitx_list nil ⟨o, h1, h2⟩ hb (fun e => by cases e) fin
    | exc C =>
     have hb : (if OD G.K C = true then W.kitOne G.K (.ref C) c else none) = some b := hb
     by_cases ha : OD G.K C = true
     ·rw [if_pos ha] at hb
      have := qx.rv fun _ e => by cases e
      cases this with
      | exc h1 h2 h3 h4 h5 =>
       exact W.kia_one (BJ ha) (hG.K.keeps rel.base) ⟨_, h1, h2, by unfold W.notCls; rw [h4], h3⟩ hb (fun e => by cases e) fin
     ·rw [if_neg ha] at hb; exact nn hb
    | range _ _ _ => exact nn hb
    | glob _ => exact nn hb
    | dict _ _ => exact nn hb
    | obj _ _ _ => exact nn hb
end Mine
end

section
set_option Elab.async false
set_option maxRecDepth 100000
namespace Mine
open PySem
section
variable {G : Gd} {k : Nat} {sc : Scope}
end
section
variable {G : Gd} {k : Nat} {sc : Scope}
end
end Mine
end

section
set_option Elab.async false
set_option maxRecDepth 100000
namespace Mine
open PySem PyProof.Rows
noncomputable def CF (G : Gd) (k : Nat) (sc : Scope) (op : BoolOp) (es : List Expr) (f : AEnv → Res T) : Prop :=
 ∀ pos cx, CxOk G cx sc k → ∀ ρ S s, Rel G cx sc ρ S s.heap → Qq G cx sc true (boolOp pos op (evalEach es cx.env)) S s (fun S' h' v t => Jp cx S' h' v t) (f ρ)
noncomputable def F0 : BoolOp → Bool
 | .And => true
 | .Or => false
noncomputable def eBo (op : BoolOp) (f : AEnv → Res Bv) (g : AEnv → Res T) : AEnv → Res T := fun ρ => (f ρ).bind fun a ρ₁ => match a.get ρ₁ with
 | some x => (match asB x with | some b => if b == F0 op then g ρ₁ else .ok (.sh (.bool b)) ρ₁ | none => .stuck)
 | none => .stuck
section
variable {G : Gd} {k : Nat} {sc : Scope} {op : BoolOp}
theorem UD {x : Expr} {f : AEnv → Res T} (h : Sim G k sc x f) : CF G k sc op [x] f := fun _ cx ok ρ S s r => h cx ok ρ S s r
set_option tactic.hygienic true in
theorem Jy {x y : Expr} {rest : List Expr} {f : AEnv → Res Bv} {g : AEnv → Res T} (hx : Qg G k sc x f) (hr : CF G k sc op (y :: rest) g) : CF G k sc op (x :: y :: rest) (eBo op f g) := by
 intro pos cx ok ρ S s r
 show Qq G cx sc true (do
  let v ← eval x cx.env
  standAt pos
  let t ← holding [v] (truthy v)
  match op, t with
  | .And, false | .Or, true => pure v
  | _, _ => boolOp pos op (evalEach (y :: rest) cx.env)) S s _ _
 refine Qq.bind (hx cx ok ρ S s r) fun a ρ₁ va h₁ t₁ S₁ _ r₁ ja x₁ v₁ => ?_
 refine Qq.standAt ?_
 split
 ·rename_i d hd
  split
  ·rename_i b hb
   have rb := Z6.rb ja r₁ hd
   unfold asB at hb
   split at hb
   ·cases hb
    rw [rb.bool]
    intro Q E out
    refine wpAny_bind (wpAny_holding (wpAny_truthy_bool ?_))
    cases op <;> cases b
    ·exact wpAny_pure (out _ h₁ t₁ S₁ r₁ (.bool _) (Ext.refl ..) fun _ => Qv.refl _ _)
    ·exact hr pos cx ok ρ₁ S₁ _ r₁ Q E out
    ·exact hr pos cx ok ρ₁ S₁ _ r₁ Q E out
    ·exact wpAny_pure (out _ h₁ t₁ S₁ r₁ (.bool _) (Ext.refl ..) fun _ => Qv.refl _ _)
   ·cases hb
  ·exact Qq.stuck
 ·exact Qq.stuck
theorem Jv {es : List Expr} {pos : Pos} {f : AEnv → Res T} (h : CF G k sc op es f) : Sim G k sc (.BoolOp op es pos) f := fun cx ok ρ S s r => h pos cx ok ρ S s r
end
noncomputable def FE : D → Option T
 | .bool b => some (.sh (.bool !b))
 | _ => none
theorem Ft {G : Gd} : Op1 G (unaryOp .Not) FE := by
 intro cx sc ok ρ S s v x t rel rx e Q E out
 unfold FE at e; split at e
 ·cases e; rw [rx.bool]
  exact not_value (wpAny_truthy_bool (Zk out rel (tk := s.toks) (.bool _)))
 ·cases e
theorem OT {G : Gd} {k : Nat} {sc : Scope} {pos : Pos} {x : Str} {i : Int} {t : Tok} (hG : G.Ok) (hx : sc.names.lookup x = some .globalImplicit) (hv : G.mg x = some (.int i t)) (hd : (x == ("__debug__" : Str)) = false) : Sim G k sc (.Name x pos) (Qd (.int i)) := by
 intro cx ok ρ S s r Q E out
 refine Calls.Name_function_global (by rw [ok.hsc]; exact ok.hk) (by unfold Env.kindOf; rw [ok.hsc]; exact hx) (Calls.loadGlobal_global (mg := G.mg) (by rw [ok.hg]; exact hG.g.keeps r.base) hv ?_) hd
 exact out _ s.heap s.toks _ r (.int i t) (Ext.refl ..) fun _ => Qv.refl _ _
noncomputable def C7 (ds : List D) (i : Int) : Option D := if 0 ≤ i then (if i < 2 ^ 63 then ds[i.toNat]? else none) else if -(2 ^ 63) ≤ i ∧ -(ds.length : Int) ≤ i then ds[(i + ds.length).toNat]? else none
noncomputable def QZ : D → D → Option T
 | .tup ds, .int i => (C7 ds i).map .sh
 | .list ds, .int i => (C7 ds i).map .sh
 | _, _ => none
theorem V5 {i : Int} {n : Nat} (h0 : 0 ≤ i) (h1 : i < n) : seqIndex? i n = some i.toNat := by
 unfold seqIndex?
 have h2 : ¬ (i < 0) := by omega
 simp only [h2, if_false]
 rw [if_pos (by simp only [Bool.and_eq_true, decide_eq_true_eq]; omega)]
set_option tactic.hygienic true in
theorem Bq {S : Addr → Prop} {h : Heap} {vs : Array Value} {ds : List D} {i : Int} {d : D} (q : RVs S h vs.toList ds) (e : C7 ds i = some d) :
  ∃ v, RV S h v d ∧ -(2 ^ 63) ≤ i ∧ i < 2 ^ 63 ∧ ((0 ≤ i ∧ vs[i.toNat]? = some v ∧ seqIndex? i vs.size = some i.toNat) ∨ (i < 0 ∧ -(vs.size : Int) ≤ i ∧ vs[(i + vs.size).toNat]? = some v ∧ seqIndex? i vs.size = some (i + vs.size).toNat)) := by
 have hl : vs.size = ds.length := by rw [← q.length]; simp
 unfold C7 at e
 split at e
 ·split at e
  ·obtain ⟨v, hv, rv⟩ := q.get e
   have hv' : vs[i.toNat]? = some v := by simpa using hv
   have := (Array.getElem?_eq_some_iff.mp hv').1
   refine ⟨v, rv, by omega, by omega, .inl ⟨by omega, hv', V5 (by omega) (by omega)⟩⟩
  ·cases e
 ·split at e
  ·rename_i hn hb
   obtain ⟨v, hv, rv⟩ := q.get e
   refine ⟨v, rv, hb.1, by omega, .inr ⟨by omega, by omega, by rw [hl]; simpa using hv, seqIndex_neg (by omega) (by omega)⟩⟩
  ·cases e
set_option tactic.hygienic true in
theorem OS {G : Gd} {k : Nat} {sc : Scope} {value slice : Expr} {pos : Pos} {f g : AEnv → Res Bv} (hl : Qg G k sc value f) (hr : Qg G k sc slice g) (hs : ∀ o i, subscripted slice false o i = operate [o, i] (getItem o i)) :
  Sim G k sc (.Subscript value slice pos) (Qp QZ f g) := by
 intro cx ok ρ S s rel
 show Qq G cx sc true (do let a ← eval value cx.env; let b ← holding [a] (eval slice cx.env); standAt pos; subscriptTail value slice a b) S s _ _
 refine WA (K := fun x y ρ₂ => match QZ x y with | some t => .ok t ρ₂ | none => .stuck) hl hr ok rel fun ρ' S' h' tk v w x y rel' rx ry => ?_
 refine Qq.standAt ?_
 split
 ·rename_i t ht
  unfold QZ at ht
  intro Q E out
  split at ht
  ·rename_i ds i
   obtain ⟨d, hd, rfl⟩ := Option.map_eq_some_iff.mp ht
   obtain ⟨a, o, vs, n, rfl, h1, h2, h3, q⟩ := rx.tup
   obtain ⟨u, rfl⟩ := ry.int
   obtain ⟨y, rv, b1, b2, hy⟩ := Bq q hd
   have it : IsTup h' a vs := ⟨o, h1, h2, n, h3⟩
   have fin := out y h' tk S' rel' rv (Ext.refl ..) fun _ => Qv.refl _ _
   refine tail_any (s := { s with heap := h', toks := tk }) it.typeIs slot_tuple_getitem.lookup ?_ (hs _ _)
   rcases hy with ⟨_, e1, e2⟩ | ⟨_, _, e1, e2⟩
   ·exact getItem_tuple it b1 b2 e2 e1 fin
   ·exact getItem_tuple it b1 b2 e2 e1 fin
  ·rename_i ds i
   obtain ⟨d, hd, rfl⟩ := Option.map_eq_some_iff.mp ht
   obtain ⟨a, o, vs, n, rfl, h1, h2, h3, q⟩ := rx.list
   obtain ⟨u, rfl⟩ := ry.int
   obtain ⟨y, rv, b1, b2, hy⟩ := Bq q hd
   have it : h'.IsList a vs := ⟨o, h1, h2, n, h3⟩
   have fin := out y h' tk S' rel' rv (Ext.refl ..) fun _ => Qv.refl _ _
   refine tail_any (s := { s with heap := h', toks := tk }) it.typeIs slot_list_getitem.lookup ?_ (hs _ _)
   rcases hy with ⟨e0, e1, _⟩ | ⟨e0, e0', e1, _⟩
   ·exact wpAny_getItem_list it e0 b2 e1 fin
   ·exact wpAny_getItem_list_neg it e0 e0' b1 e1 fin
  ·cases ht
 ·exact Qq.stuck
noncomputable def VY (ds : List D) (lo hi : Option Int) : List D := (ds.drop (lo.elim 0 (clipAt ds.length))).take (hi.elim ds.length (clipAt ds.length) - lo.elim 0 (clipAt ds.length))
noncomputable def U0 (x : D) (lo hi : Option Int) : Option T := match x with
 | .tup ds => if ds.length ≤ 1000000 then some (.sh (.tup (VY ds lo hi))) else none
 | .list ds => if ds.length ≤ 1000000 then some (.ow true (.list (VY ds lo hi))) else none
 | _ => none
noncomputable def EY (G : Gd) (k : Nat) (sc : Scope) (e : Option Expr) (f : AEnv → Res (Option Int)) : Prop :=
 ∀ cx, CxOk G cx sc k → ∀ ρ S s, Rel G cx sc ρ S s.heap → Qq G cx sc true (evalPart e cx.env) S s (fun _ _ v b => IsPart v b) (f ρ)
noncomputable def YA : AEnv → Res (Option Int) := fun ρ => .ok none ρ
noncomputable def UR (f : AEnv → Res Bv) : AEnv → Res (Option Int) := fun ρ => (f ρ).bind fun a ρ₁ => match a.get ρ₁ with
 | some (.int i) => .ok (some i) ρ₁
 | _ => .stuck
theorem WJ {G : Gd} {k : Nat} {sc : Scope} : EY G k sc none YA := fun _ _ _ _ _ r => Qq.pure r .none
set_option tactic.hygienic true in
theorem WL {G : Gd} {k : Nat} {sc : Scope} {e : Expr} {f : AEnv → Res Bv} (h : Qg G k sc e f) : EY G k sc (some e) (UR f) := by
 intro cx ok ρ S s r Q E out
 refine h cx ok ρ S s r Q E ?_
 unfold UR at out
 cases hf : f ρ with
 | stuck => rw [hf] at out; exact out
 | exc C ρ' => rw [hf] at out; exact out
 | ok a ρ' =>
  rw [hf] at out
  simp only [Res.bind] at out
  intro v h' tk S' rel j x vs
  split at out
  ·rename_i i hi
   obtain ⟨t, rfl⟩ := (Z6.rb j rel hi).int
   exact out _ h' tk S' rel (.int i t) x vs
  ·exact out.elim
theorem V3 (lo hi : Option Int) (n : Nat) : Builtin.Slice.sliceAdjust lo hi 1 (n : Int) = (((lo.elim 0 (clipAt n) : Nat) : Int), ((hi.elim n (clipAt n) : Nat) : Int)) := by
 have h1 : ¬ ((1 : Int) < 0) := by omega
 unfold Builtin.Slice.sliceAdjust
 have clip : ∀ v : Int, (if v < 0 then max (v + (n : Int)) 0 else min v (n : Int)) = ((clipAt n v : Nat) : Int) := fun v => by
  rw [clipAt_cast]; split <;> omega
 simp only [h1, if_false, clip]
 cases lo <;> cases hi <;> simp
theorem Vx (a b : Nat) : Builtin.Slice.slicePlaces (a : Int) (b : Int) 1 = b - a := by
 unfold Builtin.Slice.slicePlaces
 have h1 : (1 : Int) > 0 := by omega
 simp only [h1, if_true, Int.ediv_one]
 split <;> omega
section
variable {prog : Program} {w : World} {A : Around} {E : Value → Shared → Prop} {s : Shared}
theorem UQ {v : Value} {p : Option Int} {Q : Option Int → Shared → Prop} (hv : IsPart v p) (h : Q p s) : wpAny (model prog w) A (Builtin.Slice.slicePartIndex v) Q E s := by
 cases hv with
 | none => exact slicePart_none h
 | int i t => exact slicePart_int h
theorem U7 {sl : Addr} {vl vu : Value} {lo hi : Option Int} {n : Nat} {Q : Int × Int × Nat → Shared → Prop} (hs : s.heap.IsSliceOf sl vl vu .none) (pl : IsPart vl lo) (pu : IsPart vu hi)
  (h : Q (((lo.elim 0 (clipAt n) : Nat) : Int), 1, hi.elim n (clipAt n) - lo.elim 0 (clipAt n)) s) :
  wpAny (model prog w) A (Builtin.Slice.sliceApplied (.ref sl) (pure (n : Int))) Q E s := by
 obtain ⟨os, hos, hcs, hds⟩ := id hs
 unfold Builtin.Slice.sliceApplied Builtin.Slice.sliceFields
 refine wpAny_bind (wpAny_bind (wpAny_field hos hds (x := vl) rfl (wpAny_bind (wpAny_field hos hds (x := vu) rfl (wpAny_bind (wpAny_field hos hds (x := .none) rfl (wpAny_pure ?_)))))))
 refine wpAny_bind (slicePart_none ?_)
 show wpAny _ _ (if ((1 : Int) == 0) = true then _ else _) _ _ s
 rw [if_neg (by decide)]
 refine wpAny_bind (UQ pl (wpAny_bind (UQ pu (wpAny_bind (wpAny_pure ?_)))))
 show wpAny _ _ (match Builtin.Slice.sliceAdjust lo hi 1 (n : Int) with | (lo, hi) => pure (lo, (1 : Int), Builtin.Slice.slicePlaces lo hi 1)) _ _ s
 rw [V3]
 show wpAny _ _ (pure (_, (1 : Int), Builtin.Slice.slicePlaces _ _ 1)) _ _ s
 rw [Vx]
 exact wpAny_pure h
theorem Cu (xs : Array Value) (a k : Nat) : ((List.range k).filterMap fun (j : Nat) => xs[((a : Int) + (j : Int) * 1).toNat]?).toArray = ((xs.toList.drop a).take k).toArray := by
 have e : (fun (k : Nat) => xs[((a : Int) + (k : Int) * 1).toNat]?) = fun k => xs[a + k]? := by
  funext k
  have : ((a : Int) + (k : Int) * 1).toNat = a + k := by omega
  rw [this]
 rw [e]
 have := pick_run xs a k
 rw [List.filterMap_map] at this
 have e2 : ((fun x => xs[x]?) ∘ fun x => a + x) = fun k => xs[a + k]? := rfl
 rw [e2] at this
 rw [this]
theorem UI {t sl : Addr} {items : Array Value} {vl vu : Value} {lo hi : Option Int} {Q : Value → Shared → Prop} (ht : IsTup s.heap t items) (hs : s.heap.IsSliceOf sl vl vu .none) (pl : IsPart vl lo) (pu : IsPart vu hi)
  (h0 : (items.toList.drop (lo.elim 0 (clipAt items.size))).take (hi.elim items.size (clipAt items.size) - lo.elim 0 (clipAt items.size)) = items.toList → Q (.ref t) s)
  (h : Q (.ref s.heap.objs.size) { s with heap := s.heap.push { cls := .type "tuple", data := .seq ((items.toList.drop (lo.elim 0 (clipAt items.size))).take (hi.elim items.size (clipAt items.size) - lo.elim 0 (clipAt items.size))).toArray } })
  (hsz : items.size ≤ sizeLine) : wpAny (model prog w) A (getItem (.ref t) (.ref sl)) Q E s := by
 have hdrop : sizeOk (.seq ((items.toList.drop (lo.elim 0 (clipAt items.size))).take (hi.elim items.size (clipAt items.size) - lo.elim 0 (clipAt items.size))).toArray) := by
  show _ ≤ sizeLine
  rw [List.size_toArray, List.length_take, List.length_drop, Array.length_toList]
  omega
 obtain ⟨os, hos, hcs, hds⟩ := id hs
 have hTs : s.TypeIs (.ref sl) "slice" := ⟨os, hos, hcs⟩
 unfold getItem
 try with_reducible refine wpAny_holding ?_
 first | refine wpAny_bind (wpAny_pure ?_) | skip
 refine wpAny_bind (wpAny_sequenceKey ht.typeIs (by decide) ?_)
 refine wpAny_bind (wpAny_callSpecial?_slot (name := Str.ofString "__getitem__") ht.typeIs slot_tuple_getitem
  (wpAny_call_entry slot_tuple_getitem ht.typeIs entry_tuple_getitem ?_ (args_tuple_getitem _ _)))
 show wpAny _ _ (Builtin.Tuple.tupleItemsOf (.ref t) >>= _) _ _ s
 refine wpAny_bind (tupleItemsOf_ ht ?_)
 refine wpAny_bind (wpAny_typeOf hTs ?_)
 rw [if_pos (by decide)]
 refine wpAny_bind (U7 hs pl pu ?_)
 generalize ha : (lo.elim 0 (clipAt items.size) : Nat) = a at *
 generalize hk : hi.elim items.size (clipAt items.size) - a = k at *
 show wpAny _ _ (if ((a : Int) == 0 && (1 : Int) == 1 && k == items.size) = true then _ else _) _ _ s
 by_cases hw : ((a : Int) == 0 && (1 : Int) == 1 && k == items.size) = true
 ·rw [if_pos hw]
  simp only [Bool.and_eq_true, beq_iff_eq] at hw
  have ha0 : a = 0 := by omega
  have hq : Q (.ref t) s := h0 (by rw [ha0, hw.2, List.drop_zero]; exact List.take_of_length_le (by simp))
  obtain ⟨o, ho, hc, n, hd⟩ := id ht
  refine wpAny_bind (m := Builtin.Tuple.tupleIsExact _) ?_
  unfold Builtin.Tuple.tupleIsExact
  refine wpAny_bind (wpAny_typeOf ht.typeIs (wpAny_pure ?_))
  rw [if_pos (by decide)]
  refine wpAny_bind (wpAny_rule ?_)
  exact wpAny_pure ⟨_, rfl, wpAny_pure hq⟩
 ·rw [if_neg hw, Cu items a k]
  first
   | exact wpAny_bind (m := Builtin.Tuple.tupleExact _) (wpAny_newObj_type (wpAny_pure ⟨_, rfl, wpAny_pure h⟩) hdrop)
   | exact wpAny_bind (m := Builtin.Tuple.tupleExact _) (wpAny_newObj_type (wpAny_bind (wpAny_pure (wpAny_pure ⟨_, rfl, wpAny_pure h⟩))) hdrop)
   | exact wpAny_bind (wpAny_bind (m := Builtin.Tuple.tupleExact _) (wpAny_newObj_type (wpAny_pure (wpAny_pure ⟨_, rfl, wpAny_pure h⟩)) hdrop))
   | exact wpAny_bind (wpAny_bind (m := Builtin.Tuple.tupleExact _) (wpAny_newObj_type (wpAny_pure ⟨_, rfl, wpAny_pure h⟩) hdrop))
end
noncomputable def Jc (f : AEnv → Res Bv) (g h : AEnv → Res (Option Int)) : AEnv → Res T := fun ρ => (f ρ).bind fun a ρ₁ => (g ρ₁).bind fun lo ρ₂ => (h ρ₂).bind fun hi ρ₃ => match a.get ρ₃ with
 | some x => (match U0 x lo hi with | some t => .ok t ρ₃ | none => .stuck)
 | none => .stuck
theorem RVs.cut {S : Addr → Prop} {h : Heap} {vs : Array Value} {ds : List D} (q : RVs S h vs.toList ds) (lo hi : Option Int) :
  RVs S h ((vs.toList.drop (lo.elim 0 (clipAt vs.size))).take (hi.elim vs.size (clipAt vs.size) - lo.elim 0 (clipAt vs.size))) (VY ds lo hi) := by
 have hl : vs.size = ds.length := by rw [← q.length]; simp
 unfold VY
 rw [hl]
 exact (q.drop _).take _
set_option tactic.hygienic true in
theorem WM {G : Gd} {k : Nat} {sc : Scope} {value : Expr} {lower upper : Option Expr} {p pos : Pos} {f : AEnv → Res Bv} {g h : AEnv → Res (Option Int)} (hv : Qg G k sc value f) (hl : EY G k sc lower g) (hu : EY G k sc upper h) :
  Sim G k sc (.Subscript value (.Slice lower upper none p) pos) (Jc f g h) := by
 intro cx ok ρ S s rel
 show Qq G cx sc true (do let a ← eval value cx.env; let b ← holding [a] (eval (.Slice lower upper none p) cx.env); standAt pos; subscriptTail value (.Slice lower upper none p) a b) S s _ _
 unfold Jc
 refine Qq.bind (hv cx ok ρ S s rel) fun a ρ₁ va h₁ t₁ S₁ _ r₁ ja x₁ v₁ => ?_
 intro Q E out
 refine wpAny_bind (wpAny_holding (wpAny_Slice ?_))
 refine hl cx ok ρ₁ S₁ { s with heap := h₁, toks := t₁ } r₁ _ _ ?_
 cases hg : g ρ₁ with
 | stuck => rw [hg] at out; exact out.elim
 | exc C ρ₂ => rw [hg] at out; exact out
 | ok lo ρ₂ =>
  rw [hg] at out
  simp only [Res.bind] at out ⊢
  intro vl h₀ t₀ S₀ r₀ pl x₀ v₀
  refine hu cx ok ρ₂ S₀ { s with heap := h₀, toks := t₀ } r₀ _ _ ?_
  cases hh : h ρ₂ with
  | stuck => rw [hh] at out; exact out.elim
  | exc C ρ₃ => rw [hh] at out; intro e h₂ t₂ S₂ r₂ f₂ x₂; exact out e h₂ t₂ S₂ r₂ (f₂.back x₀) (x₀.trans x₂)
  | ok hi ρ₃ =>
   rw [hh] at out
   simp only at out
   intro vu h₂ t₂ S₂ r₂ pu x₂' v₂'
   have x₂ := x₀.trans x₂'
   have v₂ : true = true → Qv cx.env h₁ h₂ := fun q => (v₀ q).trans (v₂' q)
   rw [evalPart_none]
   refine wpAny_pure ?_
   refine wpAny_bind (wpAny_standAt ?_)
   have ja₂ : Z6 cx sc S₂ h₂ va a := Z6.ext ja x₂ (v₂ rfl)
   split at out
   ·rename_i x hx
    have rx := ja₂.rb r₂ hx
    split at out
    ·rename_i t ht
     unfold U0 at ht
     have hsl : subscripted (.Slice lower upper none p) false va (.ref h₂.objs.size) = operate [.ref h₂.objs.size, va] (getItem va (.ref h₂.objs.size)) := rfl
     split at ht
     ·rename_i ds
      split at ht
      ·rename_i hlen
       cases ht
       obtain ⟨a', o, vs, n, rfl, h1, h2, h3, q⟩ := rx.tup
       have hls : vs.size = ds.length := by rw [← q.length]; simp
       have it : IsTup (h₂.push { cls := .type "slice", data := .fields #[vl, vu, .none] }) a' vs := ⟨o, Heap.get?_push_of_some _ h1, h2, n, h3⟩
       refine tail_any (s := { s with heap := h₂.push { cls := .type "slice", data := .fields #[vl, vu, .none] }, toks := t₂ }) it.typeIs slot_tuple_getitem.lookup ?_ hsl
       have rp := Rel.push (s := { s with heap := h₂ }) r₂ { cls := .type "slice", data := .fields #[vl, vu, .none] }
       have xp : Ext S₂ h₂ S₂ _ := Q8 { cls := .type "slice", data := .fields #[vl, vu, .none] }
       refine UI it (Heap.IsSliceOf.new ..) pl pu (fun he => ?_) ?_ (by rw [hls, sizeLine_eq]; omega)
       ·refine out _ _ t₂ S₂ rp ?_ (x₂.trans xp) fun q => (v₂ q).trans (r₂.same (XD _))
        have := q.cut lo hi
        rw [he] at this
        exact .tup (Heap.get?_push_of_some _ h1) h2 h3 (this.ext xp)
       ·refine out _ _ t₂ S₂ (Rel.push (s := { s with heap := h₂.push _ }) rp _) ?_ ((x₂.trans xp).trans (Q8 _)) fun q => ((v₂ q).trans (r₂.same (XD _))).trans (rp.same (XD _))
        exact .tup (Heap.get?_push_size _ rfl) rfl rfl (by simpa using ((q.cut lo hi).ext xp).ext (Q8 _))
      ·cases ht
     ·rename_i ds
      split at ht
      ·rename_i hlen
       cases ht
       obtain ⟨a', o, vs, n, rfl, h1, h2, h3, q⟩ := rx.list
       have hls : vs.size = ds.length := by rw [← q.length]; simp
       have it : (h₂.push { cls := .type "slice", data := .fields #[vl, vu, .none] }).IsList a' vs := ⟨o, Heap.get?_push_of_some _ h1, h2, n, h3⟩
       refine tail_any (s := { s with heap := h₂.push { cls := .type "slice", data := .fields #[vl, vu, .none] }, toks := t₂ }) it.typeIs slot_list_getitem.lookup ?_ hsl
       have rp := Rel.push (s := { s with heap := h₂ }) r₂ { cls := .type "slice", data := .fields #[vl, vu, .none] }
       have xp : Ext S₂ h₂ S₂ _ := Q8 { cls := .type "slice", data := .fields #[vl, vu, .none] }
       refine wpAny_getItem_list_slice it (Heap.IsSliceOf.new ..) pl pu .none (by simp) ?_ (by rw [hls, sizeLine_eq]; omega)
       refine out _ _ t₂ S₂ (Rel.push (s := { s with heap := h₂.push _ }) rp _) ?_ ((x₂.trans xp).trans (Q8 _)) fun q => ((v₂ q).trans (r₂.same (XD _))).trans (rp.same (XD _))
       refine X2 (s := { s with heap := h₂.push _ }) rp (XD _) (Heap.get?_none_of_le (Nat.le_refl _)) (Heap.get?_push_size _ rfl) ?_
       rw [slicePick_plain]
       simpa using ((q.cut lo hi).ext xp).ext (Q8 _)
      ·cases ht
     ·cases ht
    ·exact out.elim
   ·exact out.elim
noncomputable def Xk : D → D → Option T
 | .int a, .int b => some (.sh (.int (a + b)))
 | .list xs, .list ys => if xs.length + ys.length ≤ 1000000 then some (.ow true (.list (xs ++ ys))) else none
 | .tup xs, .tup ys => if xs.length + ys.length ≤ 1000000 then some (.sh (.tup (xs ++ ys))) else none
 | _, _ => none
theorem RVs.nil_iff {S : Addr → Prop} {h : Heap} {vs : List Value} {ds : List D} (q : RVs S h vs ds) : vs = [] ↔ ds = [] := by
 have := q.length
 constructor
 ·rintro rfl; exact List.length_eq_zero_iff.mp this.symm
 ·rintro rfl; exact List.length_eq_zero_iff.mp this
theorem Xq {G : Gd} : Op2 G (binaryOp .Add) Xk := by
  intro cx sc ok ρ S s v w x y t rel rx ry e Q E out
  cases x with
  | int a =>
   cases y with
   | int b =>
    obtain ⟨_, rfl⟩ := rx.int; obtain ⟨_, rfl⟩ := ry.int; cases e
    exact PySem.P.add_int (Zk out rel (.int _ _))
   | _ => exact nn e
  | list xs =>
   cases y with
   | list ys =>
    · obtain ⟨hl, e⟩ := ifs e
      cases e
      obtain ⟨a, ⟨cls, dd, data, sl⟩, vs, n, rfl, h1, h2, h3, q1⟩ := rx.list
      obtain ⟨b, ⟨cls', dd', data', sl'⟩, ws, m, rfl, g1, g2, g3, q2⟩ := ry.list
      simp only at h2 h3 g2 g3
      subst h2 h3 g2 g3
      have l1 : vs.size = xs.length := by rw [← q1.length]; simp
      have l2 : ws.size = ys.length := by rw [← q2.length]; simp
      refine concat_meets ⟨_, h1, rfl⟩ ⟨_, g1, rfl⟩ noFill_list_add seq_list_add PySem.F.slot_list_add PySem.F.entry_list_add (PySem.F.args_list_add_2 _ _) (list_addW a b vs ws n m dd dd' sl sl' (by rw [l1, l2, sizeLine_eq]; omega)) ⟨h1, g1, ?_⟩
      refine out _ _ s.toks S (rel.push _) ?_ (Q8 _) fun _ => rel.same (XD _)
      refine X2 rel (XD _) (Heap.get?_none_of_le (Nat.le_refl _)) (Heap.get?_push_size _ rfl) ?_
      rw [Array.toList_append]
      exact (q2.append q1).ext (Q8 _)
   | _ => exact nn e
  | tup xs =>
   cases y with
   | tup ys =>
    · obtain ⟨hl, e⟩ := ifs e
      cases e
      obtain ⟨a, ⟨cls, dd, data, sl⟩, vs, n, rfl, h1, h2, h3, q1⟩ := rx.tup
      obtain ⟨b, ⟨cls', dd', data', sl'⟩, ws, m, rfl, g1, g2, g3, q2⟩ := ry.tup
      simp only at h2 h3 g2 g3
      subst h2 h3 g2 g3
      have l1 : vs.size = xs.length := by rw [← q1.length]; simp
      have l2 : ws.size = ys.length := by rw [← q2.length]; simp
      by_cases c1 : vs.isEmpty = true
      · refine concat_meets ⟨_, h1, rfl⟩ ⟨_, g1, rfl⟩ noFill_tuple_add seq_tuple_add PySem.F.slot_tuple_add PySem.F.entry_tuple_add (PySem.F.args_tuple_add_2 _ _) (tuple_addW0 a b vs ws n m dd dd' sl sl' c1) ⟨h1, g1, ?_⟩
        have : xs = [] := (q1.nil_iff).mp (by simpa using c1)
        subst this
        exact out _ _ s.toks S rel (.tup g1 rfl rfl q2) (Ext.refl ..) fun _ => Qv.refl _ _
      · by_cases c2 : ws.isEmpty = true
        · refine concat_meets ⟨_, h1, rfl⟩ ⟨_, g1, rfl⟩ noFill_tuple_add seq_tuple_add PySem.F.slot_tuple_add PySem.F.entry_tuple_add (PySem.F.args_tuple_add_2 _ _) (tuple_addW1 a b vs ws n m dd dd' sl sl' c1 c2) ⟨h1, g1, ?_⟩
          have : ys = [] := (q2.nil_iff).mp (by simpa using c2)
          subst this
          rw [List.append_nil] at out
          exact out _ _ s.toks S rel (.tup h1 rfl rfl q1) (Ext.refl ..) fun _ => Qv.refl _ _
        · refine concat_meets ⟨_, h1, rfl⟩ ⟨_, g1, rfl⟩ noFill_tuple_add seq_tuple_add PySem.F.slot_tuple_add PySem.F.entry_tuple_add (PySem.F.args_tuple_add_2 _ _) (tuple_addW2 a b vs ws n m dd dd' sl sl' c1 c2 (by rw [l1, l2, sizeLine_eq]; omega)) ⟨h1, g1, ?_⟩
          refine out _ _ s.toks S (rel.push _) ?_ (Q8 _) fun _ => rel.same (XD _)
          refine .tup (Heap.get?_push_size _ rfl) rfl rfl ?_
          rw [Array.toList_append]
          exact (q2.append q1).ext (Q8 _)
   | _ => exact nn e
  | _ => exact nn e
noncomputable def OR : D → D → Option T
 | .int a, .int b => if small a || small b then some (.sh (.int (a * b))) else none
 | .list [x], .int n => if 0 ≤ n ∧ n ≤ 1000000 then some (.ow true (.list (List.replicate n.toNat x))) else none
 | _, _ => none
theorem RVs.replicate {S : Addr → Prop} {h : Heap} {v : Value} {d : D} (q : RV S h v d) : ∀ (n : Nat), RVs S h (List.replicate n v) (List.replicate n d)
 | 0 => .nil
 | n + 1 => by rw [List.replicate_succ, List.replicate_succ]; exact .cons q (RVs.replicate q n)
theorem Vc (v : Value) : ∀ (n : Nat) (acc : Array Value), (List.foldl (fun x1 x2 => x1 ++ x2) acc (List.replicate n #[v])).toList = acc.toList ++ List.replicate n v
 | 0, acc => by simp
 | n + 1, acc => by
  rw [List.replicate_succ, List.foldl_cons, Vc v n]
  simp [List.replicate_succ]
theorem KC {G : Gd} : Op2 G (binaryOp .Mult) OR := by
  intro cx sc ok ρ S s v w x y t rel rx ry e
  cases x with
  | int a =>
   cases y with
   | int b => exact FJ cx sc ok ρ S s v w _ _ t rel rx ry e
   | _ => exact nn e
  | list xs =>
   cases xs with
   | nil => exact nn e
   | cons d xs =>
   cases xs with
   | cons _ _ => exact nn e
   | nil =>
   cases y with
   | int n =>
    · obtain ⟨hn, e⟩ := ifs e
      cases e
      obtain ⟨a, ⟨cls, dd, data, sl⟩, vs, m, rfl, h1, h2, h3, q1⟩ := rx.list
      obtain ⟨u, rfl⟩ := ry.int
      simp only at h2 h3
      subst h2 h3
      intro Q E out
      have hone : ∃ v, vs = #[v] ∧ RV S s.heap v d := by
        obtain ⟨l⟩ := vs
        simp only at q1
        cases q1 with | cons q r => cases r; exact ⟨_, rfl, q⟩
      obtain ⟨v, rfl, qv⟩ := hone
      refine wpAny_binaryOp_repeat_ref (T := "list") (U := "int") (by decide) ⟨_, h1, rfl⟩ (fun s' => typeIs_int s' n u) noFill_list_mul F.fills_int_mul F.slot_int_rmul repeat_list F.slot_int_index.lookup
        (call_meets F.slot_int_rmul (typeIs_int s n u) F.entry_int_rmul (F.args_int_rmul_2 _ _) (lm_int_rmul_list_any n u a #[v] m dd sl)
          ⟨h1, rfl, ⟨_, h1, rfl⟩, call_meets F.slot_list_mul ⟨_, h1, rfl⟩ F.entry_list_mul (F.args_list_mul_2 _ _)
            (lm_list_mul_any a #[v] m dd sl n u (by simp [Builtin.List.listFitsIndex]; omega) (by simp; omega) (by simp [Builtin.List.listTooLong, sizeLine]; omega))
            ⟨h1, ?_⟩⟩)
      refine out _ _ s.toks S (rel.push _) ?_ (Q8 _) fun _ => rel.same (XD _)
      refine X2 rel (XD _) (Heap.get?_none_of_le (Nat.le_refl _)) (Heap.get?_push_size _ rfl) ?_
      rw [show (#[v] : Array Value).isEmpty = false from rfl]
      simp only [Bool.false_eq_true, if_false]
      rw [Vc]
      exact (RVs.replicate qv n.toNat).ext (Q8 _)
   | _ => exact nn e
  | _ => exact nn e
end Mine
end

section
set_option Elab.async false
set_option maxRecDepth 100000
namespace Mine
open PySem PyProof.Rows
section
variable {G : Gd}
noncomputable def one (F : D → Option T) : List D → Option T
 | [x] => F x
 | _ => none
theorem Wi {F : D → Option T} {ds : List D} {t : T} (e : one F ds = some t) : ∃ x, ds = [x] ∧ F x = some t := by
 cases ds with
 | nil => exact nn e
 | cons x ds =>
  cases ds with
  | nil => exact ⟨x, rfl, e⟩
  | cons _ _ => exact nn e
noncomputable def Gn : D → Option T
 | .list ds => if ds.length ≤ 1000000 then some (.sh (.int ds.length)) else none
 | .tup ds => if ds.length ≤ 1000000 then some (.sh (.int ds.length)) else none
 | _ => none
noncomputable def ZX : List D → Option T := one Gn
theorem RBs.one {S : Addr → Prop} {h : Heap} {vs : List Value} {d : D} (q : RBs S h vs [d]) : ∃ v, vs = [v] ∧ RB S h v d := by
 cases q with | cons a b => cases b; exact ⟨_, rfl, a⟩
theorem RBs.two {S : Addr → Prop} {h : Heap} {vs : List Value} {d e : D} (q : RBs S h vs [d, e]) : ∃ v w, vs = [v, w] ∧ RB S h v d ∧ RB S h w e := by
 cases q with | cons a b => obtain ⟨w, rfl, r⟩ := b.one; exact ⟨_, _, rfl, a, r⟩
theorem XT : OpN G (fun vs => call (.builtin "len") vs []) ZX := by
 intro cx sc ok ρ S s vs ds t rel q e Q E out
 obtain ⟨d, rfl, e⟩ := Wi e
 cases d with
 | list ds =>
  obtain ⟨hl, e⟩ := ifs e
  cases e
  obtain ⟨v, rfl, r⟩ := q.one
  obtain ⟨a, o, us, n, rfl, h1, h2, h3, k⟩ := r.list
  have hs := k.length
  rw [Array.length_toList] at hs
  refine PyProof.Rows.len_list ⟨o, h1, h2, n, h3⟩ (by rw [hs]; omega) ?_
  rw [hs]
  exact Zk out rel (.int _ _)
 | tup ds =>
  obtain ⟨hl, e⟩ := ifs e
  cases e
  obtain ⟨v, rfl, r⟩ := q.one
  obtain ⟨a, o, us, n, rfl, h1, h2, h3, k⟩ := r.tup
  have hs := k.length
  rw [Array.length_toList] at hs
  refine PyProof.Rows.len_tuple ⟨o, h1, h2, n, h3⟩ (by rw [hs]; omega) ?_
  rw [hs]
  exact Zk out rel (.int _ _)
 | _ => exact nn e
noncomputable def Xp : List D → Option T
 | [x] => (asI x).map fun n => .sh (.range 0 n 1)
 | [x, y] => (asI x).bind fun a => (asI y).map fun b => .sh (.range a b 1)
 | [x, y, z] => (asI x).bind fun a => (asI y).bind fun b => (asI z).bind fun c => if c ≠ 0 ∧ c.natAbs < 1073741824 then some (.sh (.range a b c)) else none
 | _ => none
theorem BY {ds : List D} {t : T} (e : Xp ds = some t) : (∃ n, ds = [.int n] ∧ t = .sh (.range 0 n 1)) ∨ (∃ n m, ds = [.int n, .int m] ∧ t = .sh (.range n m 1)) ∨ ∃ n m c, ds = [.int n, .int m, .int c] ∧ (c ≠ 0 ∧ c.natAbs < 1073741824) ∧ t = .sh (.range n m c) := by
 cases ds with
 | nil => exact nn e
 | cons x ds =>
  cases ds with
  | nil =>
   obtain ⟨n, h1, rfl⟩ := Option.map_eq_some_iff.mp e
   obtain rfl := Jw h1
   exact .inl ⟨n, rfl, rfl⟩
  | cons y ds =>
   cases ds with
   | nil =>
    obtain ⟨n, h1, e⟩ := Option.bind_eq_some_iff.mp e
    obtain ⟨m, h2, rfl⟩ := Option.map_eq_some_iff.mp e
    obtain rfl := Jw h1
    obtain rfl := Jw h2
    exact .inr (.inl ⟨n, m, rfl, rfl⟩)
   | cons z ds =>
    cases ds with
    | nil =>
     obtain ⟨n, h1, e⟩ := Option.bind_eq_some_iff.mp e
     obtain ⟨m, h2, e⟩ := Option.bind_eq_some_iff.mp e
     obtain ⟨c, h3, e⟩ := Option.bind_eq_some_iff.mp e
     obtain ⟨hc, e4⟩ := ifs (c := c ≠ 0 ∧ c.natAbs < 1073741824) (a := some (T.sh (.range n m c))) e
     obtain rfl := Jw h1
     obtain rfl := Jw h2
     obtain rfl := Jw h3
     cases e4
     exact .inr (.inr ⟨n, m, c, rfl, hc, rfl⟩)
    | cons _ _ => exact nn e
theorem RBs.three {S : Addr → Prop} {h : Heap} {vs : List Value} {d e f : D} (q : RBs S h vs [d, e, f]) : ∃ v w u, vs = [v, w, u] ∧ RB S h v d ∧ RB S h w e ∧ RB S h u f := by
 cases q with | cons a b => obtain ⟨w, u, rfl, r, r'⟩ := b.two; exact ⟨_, _, _, rfl, a, r, r'⟩
theorem XV : OpN G (fun vs => call (.type "range") vs []) Xp := by
 intro cx sc ok ρ S s vs ds t rel q e Q E out
 rcases BY e with ⟨n, rfl, rfl⟩ | ⟨n, m, rfl, rfl⟩ | ⟨n, m, c, rfl, hc, rfl⟩
 ·skip
  obtain ⟨v, rfl, r⟩ := q.one
  obtain ⟨u, rfl⟩ := r.int
  exact call_range_1 (out _ _ _ S (rel.push _) (.range (IsRange.new ..)) (Q8 _) fun _ => rel.same (XD _))
 ·skip
  obtain ⟨v, w, rfl, r, r'⟩ := q.two
  obtain ⟨u, rfl⟩ := r.int
  obtain ⟨u', rfl⟩ := r'.int
  exact call_range_2 (out _ _ _ S (rel.push _) (.range (IsRange.new ..)) (Q8 _) fun _ => rel.same (XD _))
 ·skip
  ·obtain ⟨v, w, x, rfl, r, r', r''⟩ := q.three
   obtain ⟨u, rfl⟩ := r.int
   obtain ⟨u', rfl⟩ := r'.int
   obtain ⟨u'', rfl⟩ := r''.int
   exact call_range_3 hc.1 (out _ _ _ S (rel.push _) (.range (IsRange.new ..)) (Q8 _) fun _ => rel.same (XD _)) (.inl (PyProof.noPylong_small hc.2))
end
noncomputable def U1 (lo hi st : Int) : Nat := (Builtin.Range.rangeSize lo hi st).toNat
noncomputable def Ju (lo hi st : Int) : List D := (List.range (U1 lo hi st)).map fun (i : Nat) => .int (lo + i * st)
noncomputable def X9 (lo hi st : Int) : Bool := Builtin.Range.small lo hi st && decide (Builtin.Range.rangeSize lo hi st ≤ 1000000) && decide (0 ≤ Builtin.Range.rangeSize lo hi st)
theorem UW {lo hi st : Int} (h : X9 lo hi st = true) : Builtin.Range.small lo hi st = true ∧ Builtin.Range.rangeSize lo hi st = (U1 lo hi st : Int) ∧ U1 lo hi st ≤ 1000000 := by
 unfold X9 at h
 simp only [Bool.and_eq_true, decide_eq_true_eq] at h
 refine ⟨h.1.1, ?_, ?_⟩ <;> unfold U1 <;> omega
theorem RVs.of_get {S : Addr → Prop} {h : Heap} : ∀ {vs : List Value} {ds : List D}, vs.length = ds.length → (∀ (j : Nat) v, vs[j]? = some v → ∃ d, ds[j]? = some d ∧ RV S h v d) → RVs S h vs ds
 | [], [], _, _ => .nil
 | [], _ :: _, e, _ => by simp at e
 | _ :: _, [], e, _ => by simp at e
 | v :: vs, d :: ds, e, k => by
  obtain ⟨d', hd, q⟩ := k 0 v rfl
  simp at hd; subst hd
  exact .cons q (RVs.of_get (by simpa using e) fun j w hw => by simpa using k (j + 1) w (by simpa using hw))
theorem Kg {S : Addr → Prop} {h : Heap} {lo st : Int} {n : Nat} {acc : Array Value} (q : ItemsOf (fun i v => ∃ t, v = .int (lo + i * st) t) acc n) : RVs S h acc.toList ((List.range n).map fun (i : Nat) => D.int (lo + i * st)) := by
 refine RVs.of_get (by simp [q.1]) fun j v hv => ?_
 have hv' : acc[j]? = some v := by simpa using hv
 obtain ⟨t, rfl⟩ := q.2 j v hv'
 have hj : j < n := by
  have := (Array.getElem?_eq_some_iff.mp hv').1
  rw [q.1] at this; exact this
 exact ⟨.int (lo + j * st), by simp [hj], .int _ _⟩
section
variable {prog : Program} {w : World} {A : Around} {E : Value → Shared → Prop} {s : Shared}
theorem UL {Q : List Value → Shared → Prop} {r : Addr} {a b c : Int} {t u v : Tok} {n : Nat} (hh : A.handled = none) (hr : IsRange s.heap r a b c t u v) (hsmall : Builtin.Range.small a b c = true)
  (hn : Builtin.Range.rangeSize a b c = n) (hlen : n ≤ 2 ^ 24)
  (hQ : ∀ h' tk (acc : Array Value), (∀ b o', s.heap.get? b = some o' → h'.get? b = some o') → ItemsOf (fun i v => ∃ t, v = .int (a + i * c) t) acc n → Q acc.toList { s with heap := h', toks := tk }) :
  wpAny (model prog w) A (collect (.ref r)) Q E s := by
 unfold collect
 refine wpAny_bind (wpAny_runValue (codeAny_builtin F.entry_proto_collect ?_))
 rw [Around.under_plainId F.plain_proto_collect _]
 show wpAny _ A.in1 (newList [] >>= fun l => again (.builtin "list.__iadd__" ⟨[l, .ref r], []⟩)) _ _ s
 refine wpAny_bind (wpAny_newObj_type ?_)
 refine wpAny_pure ⟨plainId_quiet F.plain_list_iadd _, codeAny_builtin F.entry_list_iadd ?_⟩
 rw [Around.under_plainId F.plain_list_iadd _]
 show wpAny _ A.in1 (Builtin.List.listExtendWith (.ref s.heap.objs.size) (.ref r) (.ref s.heap.objs.size)) _ _ _
 have hS : (s.heap.push { cls := .type "list", data := .seq ([] : List Value).toArray }).get? s.heap.objs.size = some { cls := .type "list", data := .seq #[] 0 } := Heap.get?_push_size _ rfl
 have fin' : ∀ h' tk (acc : Array Value) c', (∀ b o, b ≠ s.heap.objs.size → (s.heap.push { cls := .type "list", data := .seq ([] : List Value).toArray }).get? b = some o → h'.get? b = some o) → h'.get? s.heap.objs.size = some { cls := .type "list", dict := none, data := .seq acc c', slots := #[] } → ItemsOf (fun i v => ∃ t, v = .int (a + i * c) t) acc n → wpAny (model prog w) A (match Value.ref s.heap.objs.size with
   | Value.ref a => do
    match (← load a).data with
     | Data.seq xs _ => pure xs.toList
     | _ => unsupported "internal:collect"
   | _ => unsupported "internal:collect") Q E { s with heap := h', toks := tk } := by
  intro h' tk acc c' hk hS' hacc
  show wpAny _ A (load s.heap.objs.size >>= _) _ _ _
  refine wpAny_bind (wpAny_load hS' ?_)
  refine wpAny_pure ?_
  exact hQ _ _ _ (fun b o' hb => hk b o' (Nat.ne_of_lt (Heap.lt_size hb)) (Heap.get?_push_of_some _ hb)) hacc
 refine wpAny_mono (wpAny_extend_range (A := A) (R := fun r s' => ∃ h' tk acc c', (∀ b o, b ≠ s.heap.objs.size → (s.heap.push { cls := .type "list", data := .seq ([] : List Value).toArray }).get? b = some o → h'.get? b = some o) ∧ h'.get? s.heap.objs.size = some { cls := .type "list", dict := none, data := .seq acc c', slots := #[] } ∧ ItemsOf (fun i v => ∃ t, v = .int (a + i * c) t) acc n ∧ r = .ok (.ret (.ref s.heap.objs.size)) ∧ s' = { s with heap := h', toks := tk })
  (s := { s with heap := s.heap.push { cls := .type "list", data := .seq ([] : List Value).toArray } }) hh (Heap.get?_push_of_some _ hr) hsmall hn hlen _ _ 0 hS fun h' tk acc c' hk hS' hacc => ⟨h', tk, acc, c', hk, hS', hacc, rfl, rfl⟩) (fun fin s' h => ?_) (fun e s' h => ?_)
 ·cases fin with
  | done f =>
   obtain ⟨h', tk, acc, c', hk, hS', hacc, e, rfl⟩ := h
   cases e
   exact fin' h' tk acc c' hk hS' hacc
  | again c' => exact ⟨h.1, codeAny_mono h.2 fun r s'' hr => by obtain ⟨h', tk, acc, c', hk, hS', hacc, rfl, rfl⟩ := hr; exact fin' h' tk acc c' hk hS' hacc⟩
 ·obtain ⟨_, _, _, _, _, _, _, e, _⟩ := h; cases e
end
open AutoSeq1 (wpAny_loadPart') in
theorem JY {r : Addr} {a b c : Int} {t u v : Tok} {n : Nat} (hsmall : Builtin.Range.small a b c = true) (hn : Builtin.Range.rangeSize a b c = n) (hlen : n ≤ 2 ^ 24) :
  Meets (Builtin.«tuple.__new__» ⟨[.type "tuple", .ref r], []⟩)
   (fun A R s => A.handled = none ∧ IsRange s.heap r a b c t u v ∧ ∀ (h' : Heap) (tk : Nat) (acc : Array Value), (∀ b o', s.heap.get? b = some o' → h'.get? b = some o') → ItemsOf (fun i v => ∃ t, v = .int (a + i * c) t) acc n → R (.ok (.ret (.ref h'.objs.size))) { s with heap := h'.push { cls := .type "tuple", data := .seq acc }, toks := tk }) :=
 .of_wp fun prog w A R s h => by
  obtain ⟨hp, g, d, tk, os⟩ := s; obtain ⟨hh, ht, h⟩ := h
  have hsub := sub_tuple_self
  have hinit := init_tuple_lookup
  have hmh := madeHere_tuple
  have hT : Shared.TypeIs ⟨hp, g, d, tk, os⟩ (.ref r) "range" := ⟨_, ht, rfl⟩
  wp_walk using wpAny_loadPart' ht, wpAny_typeOf hT, UL (A := A.in1) hh ht hsmall hn hlen
  intro h' tk' acc hk hacc
  show wpAny _ _ (Builtin.Tuple.tupleExact acc.toList.toArray >>= fun v => ret v) _ _ _
  unfold Builtin.Tuple.tupleExact
  refine wpAny_bind (wpAny_newObj_type ?_ (by show acc.toList.toArray.size ≤ sizeLine; have := hacc.1; simp only [Array.toArray_toList]; rw [sizeLine_eq]; omega))
  refine wpAny_pure ⟨_, rfl, ?_⟩
  have e : acc.toList.toArray = acc := by simp
  rw [e]
  exact h h' tk' acc hk hacc
theorem WY {prog : Program} {w : World} {A : Around} {E : Value → Shared → Prop} {s : Shared} {r : Addr} {a b c : Int} {t u v : Tok} {n : Nat} {Q : Value → Shared → Prop} (hh : A.handled = none) (hr : IsRange s.heap r a b c t u v) (hsmall : Builtin.Range.small a b c = true)
  (hn : Builtin.Range.rangeSize a b c = n) (hlen : n ≤ 2 ^ 24)
  (h : ∀ (h' : Heap) (tk : Nat) (acc : Array Value), (∀ b o', s.heap.get? b = some o' → h'.get? b = some o') → ItemsOf (fun i v => ∃ t, v = .int (a + i * c) t) acc n → Q (.ref h'.objs.size) { s with heap := h'.push { cls := .type "tuple", data := .seq acc }, toks := tk }) :
  wpAny (model prog w) A (call (.type "tuple") [.ref r]) Q E s :=
 callType_new F.called_tuple (by decide) (F.typeCall_tuple_1 _) (F.newCall_tuple_1 _) (fun obj => F.args_object_init_2 obj _) F.entry_tuple_new
  (JY hsmall hn hlen) ⟨hh, hr, fun h' tk acc hk hacc => ⟨⟨_, Heap.get?_push_size _ rfl, rfl⟩, h h' tk acc hk hacc⟩⟩
section
variable {G : Gd}
noncomputable def Gc : D → Option T
 | .list ds => if ds.length ≤ 1000000 then some (.ow true (.list ds)) else none
 | .tup ds => if ds.length ≤ 1000000 then some (.ow true (.list ds)) else none
 | .range lo hi st => if X9 lo hi st then some (.ow true (.list (Ju lo hi st))) else none
 | _ => none
noncomputable def Z0 : List D → Option T := one Gc
theorem Rel.keepsE {cx : Cx} {sc : Scope} {ρ : AEnv} {S : Addr → Prop} {h h' : Heap} (r : Rel G cx sc ρ S h) (k : ∀ b o, h.get? b = some o → h'.get? b = some o) : Rel G cx sc ρ S h' ∧ Ext S h S h' ∧ Qv cx.env h h' := ⟨r.keeps k, Ext.of_keeps k, r.same (.of_keeps k)⟩
theorem Yy (hq : G.quiet = true) : OpN G (fun vs => call (.type "list") vs []) Z0 := by
 intro cx sc ok ρ S s vs ds t rel q e Q E out
 have hsz : s.heap.get? s.heap.objs.size = none := Heap.get?_none_of_le (Nat.le_refl _)
 obtain ⟨d, rfl, e⟩ := Wi e
 cases d with
 | list ds =>
  obtain ⟨hl, e⟩ := ifs e
  cases e
  obtain ⟨v, rfl, r⟩ := q.one
  obtain ⟨a, o, us, n, rfl, h1, h2, h3, k⟩ := r.list
  have hs := k.length
  rw [Array.length_toList] at hs
  refine call_list_seq a (.inl rfl) h1 h2 h3 (fun h' c' hk hD => ?_) (by rw [hs, sizeLine_eq]; omega)
  obtain ⟨r', x', v'⟩ := rel.keepsE hk
  exact out _ h' s.toks S r' (X2 rel (.of_keeps hk) hsz hD (k.ext x')) x' fun _ => v'
 | tup ds =>
  obtain ⟨hl, e⟩ := ifs e
  cases e
  obtain ⟨v, rfl, r⟩ := q.one
  obtain ⟨a, o, us, n, rfl, h1, h2, h3, k⟩ := r.tup
  have hs := k.length
  rw [Array.length_toList] at hs
  refine call_list_seq a (.inr rfl) h1 h2 h3 (fun h' c' hk hD => ?_) (by rw [hs, sizeLine_eq]; omega)
  obtain ⟨r', x', v'⟩ := rel.keepsE hk
  exact out _ h' s.toks S r' (X2 rel (.of_keeps hk) hsz hD (k.ext x')) x' fun _ => v'
 | range lo hi st =>
  obtain ⟨hf, e⟩ := ifs e
  cases e
  obtain ⟨f1, f2, f3⟩ := UW hf
  obtain ⟨v, rfl, r⟩ := q.one
  have r := r.rv fun _ e => by cases e
  cases r with
  | range hr =>
   refine call_list_range (ok.hd hq) hr f1 f2 (by omega) fun h' tk acc c' hk hD hacc => ?_
   obtain ⟨r', x', v'⟩ := rel.keepsE hk
   exact out _ h' tk S r' (X2 rel (.of_keeps hk) hsz hD (Kg hacc)) x' fun _ => v'
 | _ => exact nn e
noncomputable def Fv : D → Option T
 | .list ds => if ds.length ≤ 1000000 then some (.sh (.tup ds)) else none
 | .tup ds => some (.sh (.tup ds))
 | .range lo hi st => if X9 lo hi st then some (.sh (.tup (Ju lo hi st))) else none
 | _ => none
noncomputable def XH : List D → Option T := one Fv
theorem Zv (hq : G.quiet = true) : OpN G (fun vs => call (.type "tuple") vs []) XH := by
 intro cx sc ok ρ S s vs ds t rel q e Q E out
 obtain ⟨d, rfl, e⟩ := Wi e
 cases d with
 | list ds =>
  obtain ⟨hl, e⟩ := ifs e
  cases e
  obtain ⟨v, rfl, r⟩ := q.one
  obtain ⟨a, o, us, n, rfl, h1, h2, h3, k⟩ := r.list
  have hs := k.length
  rw [Array.length_toList] at hs
  refine call_tuple_list ⟨o, h1, h2, n, h3⟩ (fun h' hk => ?_) (by rw [hs, sizeLine_eq]; omega)
  have hk' : ∀ b o, s.heap.get? b = some o → (h'.push { cls := .type "tuple", data := .seq us }).get? b = some o := fun b o e => Heap.get?_push_of_some _ (hk b o e)
  obtain ⟨r', x', v'⟩ := rel.keepsE hk'
  exact out _ _ s.toks S r' (.tup (Heap.get?_push_size _ rfl) rfl rfl (k.ext x')) x' fun _ => v'
 | tup ds =>
  cases e
  obtain ⟨v, rfl, r⟩ := q.one
  obtain ⟨a, o, us, n, rfl, h1, h2, h3, k⟩ := r.tup
  exact call_tuple_tup ⟨o, h1, h2, n, h3⟩ (Zk out rel (tk := s.toks) (.tup h1 h2 h3 k))
 | range lo hi st =>
  obtain ⟨hf, e⟩ := ifs e
  cases e
  obtain ⟨f1, f2, f3⟩ := UW hf
  obtain ⟨v, rfl, r⟩ := q.one
  have r := r.rv fun _ e => by cases e
  cases r with
  | range hr =>
   refine WY (ok.hd hq) hr f1 f2 (by omega) fun h' tk acc hk hacc => ?_
   have hk' : ∀ b o, s.heap.get? b = some o → (h'.push { cls := .type "tuple", data := .seq acc }).get? b = some o := fun b o e => Heap.get?_push_of_some _ (hk b o e)
   obtain ⟨r', x', v'⟩ := rel.keepsE hk'
   exact out _ _ tk S r' (.tup (Heap.get?_push_size _ rfl) rfl rfl (Kg hacc)) x' fun _ => v'
 | _ => exact nn e
noncomputable def UB : List D → Option (List Bool)
 | [] => some []
 | d :: ds => (asB d).bind fun b => (UB ds).map (b :: ·)
noncomputable def Go : D → Option T
 | .list ds => (UB ds).map fun bs => .sh (.bool (bs.all id))
 | _ => none
noncomputable def E3 : List D → Option T := one Go
theorem E1 {x : D} {b : Bool} (e : asB x = some b) : x = .bool b := by
 cases x <;> first | (cases e; rfl) | exact nn e
theorem C6 {S : Addr → Prop} {h : Heap} {vs : List Value} : ∀ {ds : List D} {bs : List Bool}, RVs S h vs ds → UB ds = some bs → vs.length = bs.length ∧ ∀ (i : Nat) v, vs[i]? = some v → ∃ b, bs[i]? = some b ∧ v = .bool b := by
 induction vs with
 | nil => intro ds bs q e; cases q; cases e; exact ⟨rfl, fun i v hv => by cases hv⟩
 | cons v vs ih =>
  intro ds bs q e
  cases q with
  | cons q r =>
   obtain ⟨b, hb, e1⟩ := Option.bind_eq_some_iff.mp e
   obtain ⟨bs, hbs, rfl⟩ := Option.map_eq_some_iff.mp e1
   have := E1 hb
   subst this
   obtain ⟨l, m⟩ := ih r hbs
   cases q
   refine ⟨congrArg (· + 1) l, fun i v hv => ?_⟩
   cases i with
   | zero => cases hv; exact ⟨b, rfl, rfl⟩
   | succ i => exact m i v hv
theorem C9 (bs : List Bool) : ((List.range bs.length).all fun i => bs[i]?.getD false) = bs.all id := by
 rw [Bool.eq_iff_iff]
 simp only [List.all_eq_true, List.mem_range]
 constructor
 ·intro h b hb
  obtain ⟨i, hi, rfl⟩ := List.mem_iff_getElem.mp hb
  have := h i hi
  simpa [hi] using this
 ·intro h i hi
  have := h bs[i] (List.getElem_mem hi)
  simpa [hi] using this
theorem FH (hq : G.quiet = true) : OpN G (fun vs => call (.builtin "all") vs []) E3 := by
 intro cx sc ok ρ S s vs ds t rel q e Q E out
 obtain ⟨d, rfl, e⟩ := Wi e
 cases d with
 | list ds =>
  obtain ⟨bs, hb, rfl⟩ := Option.map_eq_some_iff.mp e
  obtain ⟨v, rfl, r⟩ := q.one
  obtain ⟨a, o, us, n, rfl, h1, h2, h3, k⟩ := r.list
  obtain ⟨hlen, hget⟩ := C6 k hb
  have il : s.heap.IsList a us := ⟨o, h1, h2, n, h3⟩
  refine call_all_walk (wpAny_pyIter_list il ?_)
  have hne : a ≠ s.heap.objs.size := fun e => by rw [e] at h1; rw [Heap.get?_none_of_le (Nat.le_refl _)] at h1; cases h1
  refine ⟨_, _, _, _, _, _, fun i => bs[i]?.getD false, rfl, Walks.list (A := cx.A.in1) (ok.hd hq) _ a hne us, ⟨⟨_, Heap.get?_push_size _ rfl, rfl, rfl⟩, il.push _⟩, fun i v s' Q' E' hP hQ' => ?_, fun h' tk hk => ?_⟩
  ·obtain ⟨b, hb', rfl⟩ := hget i v (by simpa using hP)
   simp only [hb', Option.getD_some] at hQ'
   exact wpAny_truthy_bool hQ'
  ·have hs : us.size = bs.length := by rw [← hlen]; simp
   rw [hs, C9]
   have hk' : ∀ b o, s.heap.get? b = some o → h'.get? b = some o := fun b o e => hk b o (by simp; rintro rfl; rw [Heap.get?_none_of_le (Nat.le_refl _)] at e; cases e) (Heap.get?_push_of_some _ e)
   obtain ⟨r', x', v'⟩ := rel.keepsE hk'
   exact out _ h' tk S r' (.bool _) x' fun _ => v'
 | _ => exact nn e
end
end Mine
end

section
set_option Elab.async false
set_option maxRecDepth 100000
namespace Mine
open PySem PyProof.Rows
noncomputable def JE : List D → Option (List Int)
 | [] => some []
 | d :: ds => (asI d).bind fun i => (JE ds).map (i :: ·)
theorem W9 {d : D} {ds : List D} {ns : List Int} (e : JE (d :: ds) = some ns) : ∃ i ms, d = .int i ∧ JE ds = some ms ∧ ns = i :: ms := by
 obtain ⟨i, h1, e1⟩ := Option.bind_eq_some_iff.mp e
 obtain ⟨ms, h2, h3⟩ := Option.map_eq_some_iff.mp e1
 exact ⟨i, ms, Jw h1, h2, h3.symm⟩
noncomputable def Ul (ns : List Int) : List Int := ns.mergeSort (fun a b => decide (a ≤ b))
noncomputable def Fb : D → Option T
 | .list ds => (JE ds).bind fun ns => if ns.length < 64 then some (.ow true (.list ((Ul ns).map .int))) else none
 | .tup ds => (JE ds).bind fun ns => if ns.length < 64 then some (.ow true (.list ((Ul ns).map .int))) else none
 | _ => none
noncomputable def KL : List D → Option T := one Fb
theorem BQ {S : Addr → Prop} {h : Heap} {vs : List Value} : ∀ {ds : List D} {ns : List Int}, RVs S h vs ds → JE ds = some ns → IntsAre vs ns := by
 induction vs with
 | nil => intro ds ns q e; cases q; cases e; exact .nil
 | cons v vs ih =>
  intro ds ns q e
  cases q with
  | cons q r =>
   obtain ⟨i, ms, rfl, hn, rfl⟩ := W9 e
   cases q
   exact .cons _ _ (ih r hn)
theorem Bx {S : Addr → Prop} {h : Heap} {vs : List Value} {ns : List Int} (q : IntsAre vs ns) : RVs S h vs (ns.map .int) := by
 induction q with
 | nil => exact .nil
 | cons n t _ ih => exact .cons (.int n t) ih
theorem J3 {ns ns' : List Int} (p : ns'.Perm ns) (s : ns'.Pairwise (· ≤ ·)) : ns' = Ul ns := by
 have hs : (Ul ns).Pairwise (· ≤ ·) := by
  have := List.pairwise_mergeSort (le := fun a b : Int => decide (a ≤ b)) (fun a b c h1 h2 => by simp at *; omega) (fun a b => by simp; omega) ns
  exact this.imp fun h => by simpa using h
 exact List.Perm.eq_of_pairwise (fun a b _ _ h1 h2 => by omega) s hs (p.trans (List.mergeSort_perm ns _).symm)
section
variable {prog : Program} {w : World} {A : Around} {E : Value → Shared → Prop} {s : Shared}
theorem K0 {l : Addr} {o : Obj} {vs : Array Value} {n : Nat} {T : String} {ns : List Int} {Q : Value → Shared → Prop} (hT : T = "list" ∨ T = "tuple") (ho : s.heap.get? l = some o) (hc : o.cls = .type T) (hd : o.data = .seq vs n) (hI : IntsAre vs.toList ns) (h64 : vs.size < 64)
  (h : ∀ (h' : Heap) (a : Addr) (e : Nat) (out : Array Value) (ns' : List Int), (∀ b o, s.heap.get? b = some o → h'.get? b = some o) → s.heap.get? a = none → h'.get? a = some (seqObj "list" out e) → IntsAre out.toList ns' → ns'.Perm ns → ns'.Pairwise (· ≤ ·) → Q (.ref a) { s with heap := h' }) :
  wpAny (model prog w) A (call (.builtin "sorted") [.ref l]) Q E s := by
 refine Calls.call_function_entry kind_sorted plain_sorted entry_sorted (args_sorted1 _) ?_
 unfold Builtin.«sorted»
 refine wpAny_bind (m := checkCount "sorted" 1 1 _) (wpAny_pure ?_)
 refine wpAny_bind (wpAny_collect_seq l hT ho hc hd (fun h₁ hk₁ => ?_) (by rw [sizeLine_eq]; omega))
 refine wpAny_bind (wpAny_newList ?_ (by rw [Array.length_toList, sizeLine_eq]; omega))
 have hoL : (h₁.push (seqObj "list" vs.toList.toArray 0)).get? h₁.objs.size = some (seqObj "list" vs.toList.toArray 0) := Heap.get?_push_size _ rfl
 refine wpAny_bind (wpAny_holding (wpAny_call_entry slot_list_sort ⟨_, hoL, rfl⟩ entry_list_sort (list_sort_tree hoL hI (by simpa using h64) fun out ns' a1 a2 a3 => ⟨_, rfl, ?_⟩) (args_list_sort _)))
 obtain ⟨e, he⟩ := sortedHeap_at (out := out) hoL
 have hn : s.heap.get? h₁.objs.size = none := by
  cases q : s.heap.get? h₁.objs.size with
  | none => rfl
  | some o => have := Heap.lt_size (hk₁ _ _ q); exact absurd this (Nat.lt_irrefl _)
 refine wpAny_pure ⟨_, rfl, h _ _ e out ns' (fun b o eb => ?_) hn he a1 a2 a3⟩
 have hlt := Heap.lt_size (hk₁ b o eb)
 rw [sortedHeap_old (Nat.ne_of_lt hlt) (by rw [size_push']; exact Nat.lt_succ_of_lt hlt)]
 exact Heap.get?_push_of_some _ (hk₁ b o eb)
end
theorem BP {ds : List D} : ∀ {ns : List Int}, JE ds = some ns → ds.length = ns.length := by
 induction ds with
 | nil => intro ns e; cases e; rfl
 | cons d ds ih =>
  intro ns e
  obtain ⟨i, ms, rfl, hn, rfl⟩ := W9 e
  exact congrArg (· + 1) (ih hn)
set_option tactic.hygienic true in
theorem Dv {G : Gd} : OpN G (fun vs => call (.builtin "sorted") vs []) KL := by
 intro cx sc ok ρ S s vs ds t rel q e Q E out
 obtain ⟨d, rfl, e⟩ := Wi e
 cases d with
 | list ds =>
  obtain ⟨ns, hn, e⟩ := Option.bind_eq_some_iff.mp e
  split at e
  ·rename_i hl
   cases e
   obtain ⟨v, rfl, r⟩ := q.one
   obtain ⟨a, o, us, n, rfl, h1, h2, h3, k⟩ := r.list
   have hs := k.length
   rw [Array.length_toList, BP hn] at hs
   refine K0 (.inl rfl) h1 h2 h3 (BQ k hn) (by omega) fun h' b e ot ns' hk hb he i1 p1 s1 => ?_
   obtain ⟨r', x', v'⟩ := rel.keepsE hk
   refine out _ h' s.toks S r' (X2 rel (.of_keeps hk) hb he ?_) x' fun _ => v'
   rw [← J3 p1 s1]
   exact Bx i1
  ·cases e
 | tup ds =>
  obtain ⟨ns, hn, e⟩ := Option.bind_eq_some_iff.mp e
  split at e
  ·rename_i hl
   cases e
   obtain ⟨v, rfl, r⟩ := q.one
   obtain ⟨a, o, us, n, rfl, h1, h2, h3, k⟩ := r.tup
   have hs := k.length
   rw [Array.length_toList, BP hn] at hs
   refine K0 (.inr rfl) h1 h2 h3 (BQ k hn) (by omega) fun h' b e ot ns' hk hb he i1 p1 s1 => ?_
   obtain ⟨r', x', v'⟩ := rel.keepsE hk
   refine out _ h' s.toks S r' (X2 rel (.of_keeps hk) hb he ?_) x' fun _ => v'
   rw [← J3 p1 s1]
   exact Bx i1
  ·cases e
 | _ => exact nn e
section
variable {G : Gd} {cx : Cx} {sc : Scope} {ρ : AEnv} {S : Addr → Prop} {h h' : Heap}
theorem RV.but {S : Addr → Prop} {h h' : Heap} {a : Addr} {o : Obj} (e : h.get? a = some o) (ho : ¬ Imm o) (hs : ¬ S a) (k : ∀ b o, b ≠ a → h.get? b = some o → h'.get? b = some o) (ha : ∃ o, h'.get? a = some o) : Ext S h S h' :=
 ⟨fun _ q => q, fun b ob eb q => ⟨ob.slots, k b ob (by rintro rfl; rw [e] at eb; cases eb; exact q.elim hs ho) eb, fun _ => rfl⟩, fun b ob eb => by
  by_cases hb : b = a
  ·subst hb; exact ha
  ·exact ⟨ob, k b ob hb eb⟩⟩
theorem Ka {vs : Array Value} {n : Nat} : ¬ Imm { cls := .type "list", data := .seq vs n } := by
 rintro (⟨q, _⟩ | ⟨_, q⟩)
 ·exact absurd q (by simp)
 ·cases q
theorem Rel.turn {i : Nat} {x : Str} {d d' : D} {a : Addr} {o o' : Obj} (r : Rel G cx sc ρ S h) (bh : G.B.StaysIn cx.h₀) (hx : (Qf sc)[i]? = some x) (ht : ρ[i]? = some (some (.ow true d))) (hv : Var cx.env h x (.ref a))
  (e : h.get? a = some o) (hi : ¬ Imm o) (hc : ∀ v, o.data ≠ .cell v) (hl : cx.env.locals ≠ a) (k : Heap.SameBut a h h') (e' : h'.get? a = some o') (hdd : (∃ es n, o.data = .dict es n) → ∃ es n, o'.data = .dict es n) (hk : (∃ ks ds, d' = .dict ks ds) → ∃ ks ds, d = .dict ks ds) (q' : Ext S h S h' → JZ S h' a d') :
  Rel G cx sc (ρ.set i (some (.ow true d'))) S h' ∧ Ext S h S h' ∧ Qv cx.env h h' := by
 obtain ⟨w, hw, b, rfl, ns, _, hn⟩ := r.vars i x _ hx ht
 cases Var.inj hv hw
 have hn := hn rfl
 have x' : Ext S h S h' := RV.but e hi ns (fun b o hb eb => (k.2 b hb).trans eb) ⟨_, e'⟩
 have lt : i < ρ.length := (List.getElem?_eq_some_iff.mp ht).1
 have hcell : ∀ y c, cx.env.cells.lookup y = some c → c ≠ a := r.notCell e hc
 have nsame : ∀ m, h.Ns cx.env.locals m → h'.Ns cx.env.locals m := fun m n => n.sameBut k hl
 have csame : ∀ y c, cx.env.cells.lookup y = some c → ∀ w, h.IsCell c w → h'.IsCell c w := fun y c q w n => n.sameBut k (hcell y c q)
 have hb : Qv cx.env h h' := fun y w q => by
  rcases q with ⟨a, m₁, b, c⟩ | ⟨a, c, b, d⟩
  ·exact .inl ⟨a, m₁, nsame m₁ b, c⟩
  ·exact .inr ⟨a, c, b, csame y c b _ d⟩
 have hf : ∀ y w, Var cx.env h' y w → Var cx.env h y w := fun y w q => by
  rcases q with ⟨a, m₁, b, c⟩ | ⟨a, c, b, d⟩
  ·obtain ⟨m₀, n₀⟩ := r.ns
   exact .inl ⟨a, m₀, n₀, by rw [(nsame m₀ n₀).agree b y]; exact c⟩
  ·obtain ⟨w₀, n₀⟩ := r.cells y c b
   exact .inr ⟨a, c, b, by rw [IsCell.inj d (csame y c b _ n₀)]; exact n₀⟩
 have pick : ∀ (j : Nat) (u : T), (ρ.set i (some (T.ow true d')))[j]? = some (some u) → (j = i ∧ u = .ow true d') ∨ (j ≠ i ∧ ρ[j]? = some (some u)) := fun j u hj => by
  by_cases hji : j = i
  ·subst hji
   rw [List.getElem?_set_self lt] at hj; cases hj
   exact .inl ⟨rfl, rfl⟩
  ·rw [List.getElem?_set_ne (Ne.symm hji)] at hj
   exact .inr ⟨hji, hj⟩
 have old : ∀ (j : Nat) (m : Bool) (d₁ : D), (ρ.set i (some (T.ow true d')))[j]? = some (some (.ow m d₁)) → ∃ d₂, ρ[j]? = some (some (.ow m d₂)) ∧ ((∃ ks ds, d₁ = .dict ks ds) → ∃ ks ds, d₂ = .dict ks ds) := fun j m d₁ hj => by
  rcases pick j _ hj with ⟨rfl, q⟩ | ⟨_, q⟩
  ·cases q; exact ⟨_, ht, hk⟩
  ·exact ⟨d₁, q, id⟩
 refine ⟨⟨fun b o q => (k.2 b (by rintro rfl; rw [bh _ _ q] at hn; cases hn)).trans (r.base b o q), fun b o q => ?_, fun env he => ?_, let ⟨m, n⟩ := r.ns; ⟨m, nsame m n⟩, fun y c q => let ⟨w, n⟩ := r.cells y c q; ⟨w, csame y c q w n⟩, fun b q => let ⟨o, eo⟩ := r.sdom b q; x'.dom b o eo, r.sok, r.sloc, r.scell, fun y b hdy q => let ⟨o, eo⟩ := r.live y b hdy (hf y _ q); x'.dom b o eo, fun j y m d hy hj => ?_, fun v q => let ⟨C, e⟩ := r.hok v q; ⟨C, e.ext x'⟩, fun j y u hy hu => ?_, fun j l y z m m' d d' u hy hz hj hl a b => ?_, fun j y m ks ds hy hj hvy => ?_⟩, x', hb⟩
 ·obtain ⟨sl, q₁, k₁⟩ := r.keep b o q
  exact ⟨sl, (k.2 b (by rintro rfl; rw [q] at hn; cases hn)).trans q₁, k₁⟩
 ·obtain ⟨p, L, o₁, b, c, d, es, n, q⟩ := r.ff env he
  by_cases hLa : L = a
  ·subst hLa
   rw [e] at d; cases d
   obtain ⟨es', n', q₂⟩ := hdd ⟨es, n, q⟩
   exact ⟨p, L, _, b, c, e', es', n', q₂⟩
  ·exact ⟨p, L, o₁, b, c, (k.2 L hLa).trans d, es, n, q⟩
 ·obtain ⟨d', hj', _⟩ := old j m d hj
  exact r.clean j y m d' hy hj'
 ·rcases pick j u hu with ⟨rfl, rfl⟩ | ⟨hji, hu⟩
  ·rw [hx] at hy; cases hy
   exact ⟨_, hb _ _ hv, a, rfl, ns, q' x', fun _ => hn⟩
  ·obtain ⟨w, hw', tw⟩ := r.vars j y u hy hu
   refine ⟨w, hb y w hw', ?_⟩
   cases u with
   | sh d => exact RV.ext x' tw
   | ow m d =>
    obtain ⟨b, rfl, n1, ow, n2⟩ := tw
    refine ⟨b, rfl, n1, ow.ext x' fun o eo => ⟨o.slots, (k.2 b ?_).trans eo, fun _ => rfl⟩, n2⟩
    rintro rfl
    exact hji (r.inj j i y x m true d _ _ hy hx hu ht hw' hv)
 ·obtain ⟨d₁, h1, _⟩ := old j m d hj
  obtain ⟨d₂, h2, _⟩ := old l m' d' hl
  exact r.inj j l y z m m' d₁ d₂ u hy hz h1 h2 (hf y _ a) (hf z _ b)
 ·obtain ⟨d₁, h1, h2⟩ := old j m _ hj
  obtain ⟨ks', ds', rfl⟩ := h2 ⟨_, _, rfl⟩
  exact r.dok j y m ks' ds' hy h1 (hf y _ hvy)
theorem Rel.mutate {i : Nat} {x : Str} {ds ds' : List D} {a : Addr} {vs' : Array Value} {n' : Nat} (r : Rel G cx sc ρ S h) (bh : G.B.StaysIn cx.h₀) (hx : (Qf sc)[i]? = some x) (ht : ρ[i]? = some (some (.ow true (.list ds)))) (hv : Var cx.env h x (.ref a))
  (k : Heap.SameBut a h h') (e' : h'.get? a = some { cls := .type "list", data := .seq vs' n' }) (q' : RVs S h vs'.toList ds') :
  Rel G cx sc (ρ.set i (some (.ow true (.list ds')))) S h' ∧ Ext S h S h' ∧ Qv cx.env h h' := by
 obtain ⟨w, hw, b, rfl, ns, ⟨vs, n, e, q⟩, hn⟩ := r.vars i x _ hx ht
 cases Var.inj hv hw
 have hl : cx.env.locals ≠ a := by
  rintro rfl
  obtain ⟨m', o', es, ep, e', hd', _⟩ := r.ns
  rw [e] at e'; cases e'; cases hd'
 exact r.turn bh hx ht hv e Ka (by intro v q; cases q) hl k e' (by rintro ⟨_, _, q⟩; cases q) (by rintro ⟨_, _, q⟩; cases q) fun x' => ⟨vs', n', e', q'.ext x'⟩
end
noncomputable def Z2 (ρ : AEnv) (i : Nat) : Option (List D) := match ρ[i]? with
 | some (some (.ow true (.list ds))) => if ds.length ≤ 1000000 then some ds else none
 | _ => none
set_option tactic.hygienic true in
theorem JD {ρ : AEnv} {i : Nat} {ds : List D} (h : Z2 ρ i = some ds) : ρ[i]? = some (some (.ow true (.list ds))) ∧ ds.length ≤ 1000000 := by
 unfold Z2 at h
 split at h
 ·rename_i ds' e
  split at h
  ·cases h; exact ⟨e, by assumption⟩
  ·cases h
 ·cases h
theorem Rel.own {G : Gd} {cx : Cx} {sc : Scope} {ρ : AEnv} {S : Addr → Prop} {h : Heap} {i : Nat} {x : Str} {ds : List D} (r : Rel G cx sc ρ S h) (hx : (Qf sc)[i]? = some x) (ht : ρ[i]? = some (some (.ow true (.list ds)))) :
  ∃ a vs n, Var cx.env h x (.ref a) ∧ h.get? a = some { cls := .type "list", data := .seq vs n } ∧ RVs S h vs.toList ds ∧ vs.size = ds.length := by
 obtain ⟨w, hw, a, rfl, _, ⟨vs, n, e, q⟩, _⟩ := r.vars i x _ hx ht
 exact ⟨a, vs, n, hw, e, q, by rw [← q.length]; simp⟩
theorem JH {h : Heap} {a : Addr} {vs : Array Value} {n : Nat} (f : Array Value → Array Value) (e : h.get? a = some { cls := .type "list", data := .seq vs n }) : ∃ n', (h.update a (Obj.mapSeq f)).get? a = some { cls := .type "list", data := .seq (f vs) n' } := by
 have := Heap.get?_update_self (Obj.mapSeq f) e (by rfl)
 exact ⟨_, this⟩
noncomputable def ZT (i : Nat) (f : AEnv → Res T) : AEnv → Res T := fun ρ => match Z2 ρ i with
 | none => .stuck
 | some _ => (f ρ).bind fun t ρ₁ => match Z2 ρ₁ i with
  | some ds => .ok (.sh .none) (ρ₁.set i (some (.ow true (.list (ds ++ [t.val])))))
  | none => .stuck
noncomputable def Wj (G : Gd) (k : Nat) (sc : Scope) (e : Expr) (f : AEnv → Res T) : Prop :=
 ∀ cx, CxOk G cx sc k → FnOk G cx → ∀ ρ S s, Rel G cx sc ρ S s.heap → Qq G cx sc true (eval e cx.env) S s (fun S' h' v t => Jp cx S' h' v t) (f ρ)
theorem Wj.of {G : Gd} {k : Nat} {sc : Scope} {e : Expr} {f : AEnv → Res T} (h : Sim G k sc e f) : Wj G k sc e f := fun cx ok _ => h cx ok
section
variable {G : Gd} {k : Nat} {sc : Scope}
set_option tactic.hygienic true in
theorem BW {x : Str} {p apos pos : Pos} {e : Expr} {i : Nat} {f : AEnv → Res T} (he : Wj G k sc e f) (hx : (Qf sc)[i]? = some x) (hd : (x == ("__debug__" : Str)) = false) (hn : (x == ("__classdict__" : Str)) = false)
  (hu : ∀ env, backTo pos (starEach [e] env) = [(false, eval e env)]) (hline : (apos.endLine == pos.line) = true) : Wj G k sc (.Call (.Attribute (.Name x p) "append" apos) [e] [] pos) (ZT i f) := by
 intro cx ok fn ρ S s r Q E out
 unfold ZT at out
 split at out
 ·exact out.elim
 ·rename_i ds₀ h0
  obtain ⟨t0, l0⟩ := JD h0
  obtain ⟨a, vs, n, hv, ho, q, hsz⟩ := r.own hx t0
  refine wpAny_Call_method rfl (by rw [hu]; rfl) hline F.plainAttrs_list F.slot_list_append F.type_list_append ?_
  refine wpAny_Name (XY (ok.mono (Nat.zero_le _)) hv hn rfl ?_) hd
  refine ⟨⟨_, ho, rfl⟩, fun b eb => ?_, ?_⟩
  ·cases eb; exact ⟨_, ho, rfl⟩
  rw [hu]
  refine PySem.P.append_list ?_
  refine (he cx ok fn ρ S s r).shared _ _ ?_
  cases hf : f ρ with
  | stuck => rw [hf] at out; exact out.elim
  | exc C ρ₁ => rw [hf] at out; exact out
  | ok t ρ₁ =>
   rw [hf] at out
   simp only [Res.bind] at out
   intro v h₁ t₁ S₁ r₁ j₁ x₁ v₁
   split at out
   ·rename_i ds h1
    obtain ⟨e1, l1⟩ := JD h1
    obtain ⟨a', vs', n', hv', ho', q', hsz'⟩ := r₁.own hx e1
    cases Var.inj hv' (v₁ rfl x _ hv)
    refine ⟨vs', n', by rw [hsz', sizeLine_eq]; omega, ho', ?_⟩
    obtain ⟨m', hm'⟩ := JH (fun xs => xs.push v) ho'
    obtain ⟨r₂, x₂, v₂⟩ := r₁.mutate fn.bh hx e1 hv' (Heap.SameBut.update ..) hm' (ds' := ds ++ [t.val]) (by rw [Array.toList_push]; exact RVs.append (.cons j₁ .nil) q')
    exact out _ _ t₁ S₁ r₂ .none (x₁.trans x₂) fun z => (v₁ z).trans v₂
   ·exact out.elim
theorem BV {e : Expr} {pos : Pos} {f : AEnv → Res T} (h : Wj G k sc e f) (hs : ∀ env : Env, swapsWith e none pos.line env = pure false) : Yk G k sc (.Expr e pos) (ZN (Qc f)) := by
 intro cx ok fn ρ S s r Q E out
 refine wpAny_Expr_any ?_ (by unfold interactive; rw [ok.hsc, ok.hk]; rfl) (hs cx.env)
 refine h cx ok fn ρ S s r _ _ ?_
 unfold ZN Qc at out
 cases hf : f ρ with
 | stuck => rw [hf] at out; exact out
 | exc C ρ' => rw [hf] at out; exact out
 | ok t ρ' => rw [hf] at out; intro v h' tk S' rel j x vs; exact out .next h' tk S' rel trivial x fun q => by cases q
theorem OQ {prog : Program} {w : World} {A : Around} {E : Value → Shared → Prop} {s : Shared} {l : Addr} {o : Obj} {items : Array Value} {n : Nat} {i : Int} {t : Tok} {v : Value} {Q : Unit → Shared → Prop} (ho : s.heap.get? l = some o) (hc : o.cls = .type "list") (hd : o.data = .seq items n)
  (h0 : 0 ≤ i) (hfit : i < 2 ^ 63) (hn : i < items.size) (hQ : Q () { s with heap := s.heap.update l (Obj.mapSeq (·.setIfInBounds i.toNat v)) }) : wpAny (model prog w) A (setItem (.ref l) (.int i t) v) Q E s := by
 have hT : s.TypeIs (.ref l) "list" := ⟨o, ho, hc⟩
 unfold setItem
 try with_reducible refine wpAny_holding ?_
 first | refine wpAny_bind (wpAny_pure ?_) | skip
 refine wpAny_bind (wpAny_sequenceKey hT (by decide) ?_)
 refine wpAny_bind (wpAny_callSpecial?_slot (name := Str.ofString "__setitem__") hT slot_list_setitem
  (wpAny_call_entry slot_list_setitem hT entry_list_setitem ?_ (args_list_setitem _ _ _)))
 show wpAny _ _ (Builtin.List.listSubscript? (.int i t) >>= _) _ _ s
 refine wpAny_bind (wpAny_listSubscript_int (fitsIndex_of h0 hfit) ?_)
 clear hfit
 obtain ⟨j, rfl⟩ := Int.eq_ofNat_of_zero_le h0
 have hj : j < items.size := by omega
 have hx' : items[j]? = some items[j] := Array.getElem?_eq_getElem hj
 show wpAny _ _ ((seqItemAt l j >>= fun r => pure (r.map (j, ·))) >>= _) _ _ s
 refine wpAny_bind (wpAny_bind (wpAny_seqItemAt ho hd (wpAny_pure ?_)))
 rw [hx']
 show wpAny _ _ (setSeqItemAt l j v >>= _) _ _ s
 refine wpAny_bind (wpAny_setSeqItemAt ho hd ?_)
 first
  | exact wpAny_bind (wpAny_pure (wpAny_pure ⟨.none, rfl, wpAny_pure hQ⟩))
  | exact wpAny_pure ⟨.none, rfl, wpAny_pure hQ⟩
noncomputable def ZJ (i : Nat) (f : AEnv → Res Bv) (g : AEnv → Res T) : AEnv → Res Fl := fun ρ => (g ρ).bind fun t ρ₁ => match Z2 ρ₁ i with
 | none => .stuck
 | some _ => (f ρ₁).bind fun b ρ₂ => match b.get ρ₂, Z2 ρ₂ i with
  | some (.int j), some ds => if 0 ≤ j ∧ j < ds.length then .ok .next (ρ₂.set i (some (.ow true (.list (ds.set j.toNat t.val))))) else .stuck
  | _, _ => .stuck
set_option tactic.hygienic true in
theorem VZ {x : Str} {p ip pos : Pos} {ix value : Expr} {i : Nat} {f : AEnv → Res Bv} {g : AEnv → Res T} (hf : Qg G k sc ix f) (hg : Sim G k sc value g) (hx : (Qf sc)[i]? = some x) (hd : (x == ("__debug__" : Str)) = false) (hn : (x == ("__classdict__" : Str)) = false)
  (hs : ∀ env : Env, env.scope = sc → swapsWithSole [.Subscript (.Name x p) ix ip] value pos.line env = pure false) (hw : ∀ env : Env, swappedStores [.Subscript (.Name x p) ix ip] value env = pure none) :
  Yk G k sc (.Assign [.Subscript (.Name x p) ix ip] value pos) (ZJ i f g) := by
 intro cx ok fn ρ S s r Q E out
 rw [exec_Assign]
 refine wpAny_bind (wpAny_standAt ?_)
 rw [hs cx.env ok.hsc]
 refine wpAny_bind (wpAny_pure ?_)
 rw [if_neg (by decide)]
 refine wpAny_bind ((hg cx ok ρ S s r).shared _ _ ?_)
 unfold ZJ at out
 cases hgv : g ρ with
 | stuck => rw [hgv] at out; exact out.elim
 | exc C ρ₁ => rw [hgv] at out; exact out
 | ok t ρ₁ =>
  rw [hgv] at out
  simp only [Res.bind] at out
  intro v h₁ t₁ S₁ r₁ j₁ x₁ v₁
  rw [hw]
  refine wpAny_bind (wpAny_pure ?_)
  show wpAny _ _ (do assignAll v [assign (.Subscript (.Name x p) ix ip) cx.env]; pure .next) Q E _
  refine wpAny_bind ?_
  show wpAny _ _ (assign (.Subscript (.Name x p) ix ip) cx.env v) _ E _
  rw [arm_assign_Subscript]
  split at out
  ·exact out.elim
  rename_i ds₀ h0
  obtain ⟨t0, l0⟩ := JD h0
  obtain ⟨a, vs, n, hv, ho, q, hsz⟩ := r₁.own hx t0
  refine wpAny_bind (wpAny_holding (wpAny_Name (XY (ok.mono (Nat.zero_le _)) hv hn rfl ?_) hd))
  refine wpAny_bind (wpAny_holding (hf cx ok ρ₁ S₁ { s with heap := h₁, toks := t₁ } r₁ _ _ ?_))
  cases hfv : f ρ₁ with
  | stuck => rw [hfv] at out; exact out.elim
  | exc C ρ₂ => rw [hfv] at out; intro e h₂ t₂ S₂ r₂ f₂ x₂; exact out e h₂ t₂ S₂ r₂ (f₂.back x₁) (x₁.trans x₂)
  | ok b ρ₂ =>
   rw [hfv] at out
   simp only at out
   intro iv h₂ t₂ S₂ r₂ j₂ x₂ v₂
   refine wpAny_bind (wpAny_standAt ?_)
   split at out
   ·rename_i j ds hj h1
    obtain ⟨u, rfl⟩ := (Z6.rb j₂ r₂ hj).int
    obtain ⟨e1, l1⟩ := JD h1
    obtain ⟨a', vs', n', hv', ho', q', hsz'⟩ := r₂.own hx e1
    cases Var.inj hv' (v₂ rfl x _ hv)
    split at out
    ·rename_i hb
     refine wpAny_bind (wpAny_holding (OQ ho' rfl rfl hb.1 (by omega) (by omega) ?_))
     obtain ⟨m', hm'⟩ := JH (fun xs => xs.setIfInBounds j.toNat v) ho'
     obtain ⟨r₃, x₃, v₃⟩ := r₂.mutate fn.bh hx e1 hv' (Heap.SameBut.update ..) hm' (ds' := ds.set j.toNat t.val) (by
      rw [Array.toList_setIfInBounds]; exact q'.set (j₁.ext x₂) _)
     refine wpAny_release (wpAny_pure ?_)
     exact out .next _ t₂ S₂ r₃ trivial ((x₁.trans x₂).trans x₃) fun z => by cases z
    ·exact out.elim
   ·exact out.elim
end
end Mine
end

section
set_option Elab.async false
set_option maxRecDepth 100000
namespace Mine
open PySem PyProof.Rows
theorem OJ : entryFor table "proto.unchain" = some Builtin.«proto.unchain» := entryFor_of_tree (by kernel_rfl)
noncomputable def HOk (A : Around) (h : Heap) : Prop := ∀ v, A.handled = some v → ∃ a o vs, v = .ref a ∧ h.get? a = some o ∧ o.data = .fields vs ∧ vs[2]? = some .none
theorem HOk.keeps {A : Around} {h h' : Heap} (q : HOk A h) (k : ∀ b o vs, h.get? b = some o → o.data = .fields vs → vs[2]? = some .none → ∃ o' vs', h'.get? b = some o' ∧ o'.data = .fields vs' ∧ vs'[2]? = some .none) : HOk A h' := fun v e => by
 obtain ⟨a, o, vs, rfl, h1, h2, h3⟩ := q v e
 obtain ⟨o', vs', k1, k2, k3⟩ := k a o vs h1 h2 h3
 exact ⟨a, o', vs', rfl, k1, k2, k3⟩
theorem Rel.hOk {G : Gd} {cx : Cx} {sc : Scope} {ρ : AEnv} {S : Addr → Prop} {h : Heap} (r : Rel G cx sc ρ S h) : HOk cx.A h := fun v e => by
 obtain ⟨C, q⟩ := r.hok v e
 cases q with
 | exc h1 h2 h3 h4 h5 => exact ⟨_, _, _, rfl, h1, h4, h5⟩
section
variable {prog : Program} {w : World} {A : Around} {E : Value → Shared → Prop} {s : Shared}
theorem VJ {α : Type} {Q : α → Shared → Prop} (hh : HOk A s.heap)
  (hE : ∀ h' e, (∀ b o, s.heap.get? b = some o → h'.get? b = some o) → (∃ o, h'.get? e = some o ∧ o.cls = .type "StopIteration") → E (.ref e) { s with heap := h' }) :
  wpAny (model prog w) A (newExc (.type "StopIteration") [] >>= fun e => (raiseNew e : Sem α)) Q E s := by
 refine wpAny_bind ?_
 simp only [newExc, newTuple]
 refine wpAny_bind (wpAny_newObj_type ?_ (by size_fits))
 refine wpAny_bind (m := firstArgMember _ _) (wpAny_of_eq (a := Value.none) (by first | rfl | (simp only [firstArgMember]; rfl)) ?_)
 refine wpAny_newObj_type ?_ (by size_fits)
 simp only [raiseNew]
 refine wpAny_bind (wpAny_handled ?_)
 generalize ho1 : ({ cls := Value.type "tuple", data := Data.seq ([] : List Value).toArray } : Obj) = o1
 generalize ho2 : ({ cls := Value.type "StopIteration", data := _ } : Obj) = o2
 have keep : ∀ b o, s.heap.get? b = some o → ((s.heap.push o1).push o2).get? b = some o := fun b o e => Heap.get?_push_of_some _ (Heap.get?_push_of_some _ e)
 have hnew : ((s.heap.push o1).push o2).get? (s.heap.push o1).objs.size = some o2 := Heap.get?_push_size _ (by subst ho2; rfl)
 have hcls : o2.cls = .type "StopIteration" := by subst ho2; rfl
 cases hA : A.handled with
 | none => exact wpAny_bind (wpAny_pure (wpAny_throw (hE _ _ keep ⟨_, hnew, hcls⟩)))
 | some v =>
  obtain ⟨a, o, vs, rfl, h1, h2, h3⟩ := hh v hA
  have hne : (Value.ref a != Value.ref (s.heap.push o1).objs.size) = true := by
   have := Heap.lt_size h1
   rw [bne_iff_ne]
   intro q
   rw [Value.ref.injEq, Heap.size_push] at q
   exact absurd this (by rw [q]; exact Nat.not_lt.mpr (Nat.le_succ _))
  simp only [hne, if_true]
  have hd2 : ∃ ws, o2.data = .fields ws ∧ 2 < ws.size := by subst ho2; exact ⟨_, rfl, by rw [Array.size_append]; simp; omega⟩
  obtain ⟨ws, hws, hsz⟩ := hd2
  refine wpAny_bind (wpAny_holding (wpAny_runValue (codeAny_builtin OJ ?_)))
  show wpAny _ _ (do
   let context ← field (.ref a) 2
   if context == .none then return ← ret .none
   if context == .ref (s.heap.push o1).objs.size then
    rule "raise.context-cycle-cut"
    setField (.ref a) 2 .none
    return ← ret .none
   if context == .ref a then rule "raise.context-old-cycle"; return ← ret .none
   let slow ← (if false then field (.ref a) 2 else pure (.ref a))
   again (.builtin "proto.unchain" ⟨[.ref (s.heap.push o1).objs.size, context, slow, .bool !false], []⟩)) _ _ _
  refine wpAny_bind (wpAny_field (keep a o h1) h2 h3 ?_)
  rw [if_pos (by rfl)]
  refine wpAny_bind (wpAny_pure (wpAny_pure ?_))
  refine wpAny_bind ?_
  show wpAny _ _ (setField (.ref (s.heap.push o1).objs.size) 2 (.ref a)) _ _ _
  refine wpAny_setField hnew hws hsz (wpAny_throw (hE _ _ (fun b o e => ?_) ⟨_, Heap.get?_update_self _ hnew (Obj.isFreed_of_fields (Obj.data_mapFields hws _)), (Obj.cls_mapFields ..).trans hcls⟩))
  refine (Heap.get?_update_other _ _ ?_).trans (keep b o e)
  have := Heap.lt_size e
  rw [Heap.size_push]
  exact fun q => absurd this (by rw [← q]; exact Nat.not_lt.mpr (Nat.le_succ _))
noncomputable def KB (wr : List Addr) (h h' : Heap) : Prop := (∀ b o, b ∉ wr → h.get? b = some o → h'.get? b = some o) ∧ ∀ b ∈ wr, ∃ o, h'.get? b = some o
theorem YZ {it l : Addr} {i : Nat} {o ol : Obj} {items : Array Value} {nl : Nat} {P : Fin → Shared → Prop} (hh : HOk A s.heap) (ho : s.heap.get? it = some o) (hd : o.data = .fields #[.ref l, .int i 0]) (hol : s.heap.get? l = some ol) (hdl : ol.data = .seq items nl) (hx : items[i]? = none) (hni : ∀ v, A.handled = some v → v ≠ .ref it)
  (hE : ∀ h' e, KB [it] s.heap h' → (∃ o, h'.get? e = some o ∧ o.cls = .type "StopIteration") → E (.ref e) { s with heap := h' }) :
  wpAny (model prog w) A (Builtin.«list_iterator.__next__» ⟨[.ref it], []⟩) P E s := by
 show wpAny _ _ (field (.ref it) 0 >>= _) _ _ s
 refine wpAny_bind (wpAny_field ho hd (x := .ref l) rfl ?_)
 show wpAny _ _ (if (Value.ref l == Value.none) = true then _ else _) _ _ s
 rw [if_neg (show ¬ ((Value.ref l == Value.none) = true) from Bool.false_ne_true)]
 show wpAny _ _ (field (.ref it) 1 >>= _) _ _ s
 refine wpAny_bind (wpAny_field ho hd (x := .int i 0) rfl ?_)
 show wpAny _ _ (seqItems? (.ref l) >>= _) _ _ s
 refine wpAny_bind (wpAny_seqItems hol hdl ?_)
 simp only [Int.toNat_natCast, hx]
 refine wpAny_bind (wpAny_rule (wpAny_bind (wpAny_setField ho hd (by simp) ?_)))
 have self := Heap.get?_update_self (Obj.mapFields (·.setIfInBounds 0 Value.none)) ho (Obj.isFreed_of_fields (Obj.data_mapFields hd _))
 have oth : ∀ b o, b ≠ it → s.heap.get? b = some o → (s.heap.update it (Obj.mapFields (·.setIfInBounds 0 Value.none))).get? b = some o := fun b o hb e => (Heap.get?_update_other _ _ (Ne.symm hb)).trans e
 show wpAny _ _ (newExc (.type "StopIteration") [] >>= fun e => raiseNew e) _ _ _
 refine VJ (s := { s with heap := s.heap.update it (Obj.mapFields (·.setIfInBounds 0 Value.none)) }) (fun v e => ?_) fun h' e k he => hE h' e ⟨fun b o hb eb => k b o (oth b o (by simpa using hb) eb), fun b hb => by cases List.mem_singleton.mp hb; exact ⟨_, k _ _ self⟩⟩ he
 obtain ⟨a, o', vs, rfl, h1, h2, h3⟩ := hh v e
 exact ⟨a, o', vs, rfl, oth a o' (fun q => hni _ e (by rw [q])) h1, h2, h3⟩
theorem WB {it l : Addr} {i : Nat} {o ol : Obj} {items : Array Value} {nl : Nat} {Q : Option Value → Shared → Prop} 
  (hh : HOk A s.heap) (ho : s.heap.get? it = some o) (hc : o.cls = .type "list_iterator") (hd : o.data = .fields #[.ref l, .int i 0]) (hol : s.heap.get? l = some ol) (hdl : ol.data = .seq items nl) (hx : items[i]? = none) (hni : ∀ v, A.handled = some v → v ≠ .ref it)
  (hQ : ∀ h', KB [it] s.heap h' → Q none { s with heap := h' }) : wpAny (model prog w) A (pyNext (.ref it)) Q E s := by
 have hT : s.TypeIs (.ref it) "list_iterator" := ⟨o, ho, hc⟩
 unfold pyNext
 refine wpAny_bind (wpAny_attempt (wpAny_callSpecial?_slot (name := Str.ofString "__next__") hT slot_listiter_next (wpAny_call_entry slot_listiter_next hT entry_listiter_next ?_ (args_listiter_next _))))
 refine YZ (A := A.in1) hh ho hd hol hdl hx hni fun h' e k he => ?_
 obtain ⟨oe, he, hce⟩ := he
 refine wpAny_bind (wpAny_isInstance (T := "StopIteration") (b := true) ⟨_, he, hce⟩ isSubtype_stop ?_)
 exact wpAny_pure (hQ _ k)
theorem YS {it l : Addr} {i : Nat} {o ol : Obj} {items : Array Value} {nl : Nat} {P : Fin → Shared → Prop} (hh : HOk A s.heap) (ho : s.heap.get? it = some o) (hd : o.data = .fields #[.ref l, .int i 0]) (hol : s.heap.get? l = some ol) (hdl : ol.data = .seq items nl) (hx : items[i]? = none) (hni : ∀ v, A.handled = some v → v ≠ .ref it)
  (hE : ∀ h' e, KB [it] s.heap h' → (∃ o, h'.get? e = some o ∧ o.cls = .type "StopIteration") → E (.ref e) { s with heap := h' }) :
  wpAny (model prog w) A (Builtin.«tuple_iterator.__next__» ⟨[.ref it], []⟩) P E s := by
 show wpAny _ _ (field (.ref it) 0 >>= _) _ _ s
 refine wpAny_bind (wpAny_field ho hd (x := .ref l) rfl ?_)
 show wpAny _ _ (if (Value.ref l == Value.none) = true then _ else _) _ _ s
 rw [if_neg (show ¬ ((Value.ref l == Value.none) = true) from Bool.false_ne_true)]
 show wpAny _ _ (field (.ref it) 1 >>= _) _ _ s
 refine wpAny_bind (wpAny_field ho hd (x := .int i 0) rfl ?_)
 show wpAny _ _ (seqItems? (.ref l) >>= _) _ _ s
 refine wpAny_bind (wpAny_seqItems hol hdl ?_)
 simp only [Int.toNat_natCast, hx]
 refine wpAny_bind (wpAny_rule (wpAny_bind (wpAny_setField ho hd (by simp) ?_)))
 have self := Heap.get?_update_self (Obj.mapFields (·.setIfInBounds 0 Value.none)) ho (Obj.isFreed_of_fields (Obj.data_mapFields hd _))
 have oth : ∀ b o, b ≠ it → s.heap.get? b = some o → (s.heap.update it (Obj.mapFields (·.setIfInBounds 0 Value.none))).get? b = some o := fun b o hb e => (Heap.get?_update_other _ _ (Ne.symm hb)).trans e
 show wpAny _ _ (newExc (.type "StopIteration") [] >>= fun e => raiseNew e) _ _ _
 refine VJ (s := { s with heap := s.heap.update it (Obj.mapFields (·.setIfInBounds 0 Value.none)) }) (fun v e => ?_) fun h' e k he => hE h' e ⟨fun b o hb eb => k b o (oth b o (by simpa using hb) eb), fun b hb => by cases List.mem_singleton.mp hb; exact ⟨_, k _ _ self⟩⟩ he
 obtain ⟨a, o', vs, rfl, h1, h2, h3⟩ := hh v e
 exact ⟨a, o', vs, rfl, oth a o' (fun q => hni _ e (by rw [q])) h1, h2, h3⟩
theorem YR {it l : Addr} {i : Nat} {o ol : Obj} {items : Array Value} {nl : Nat} {Q : Option Value → Shared → Prop} 
  (hh : HOk A s.heap) (ho : s.heap.get? it = some o) (hc : o.cls = .type "tuple_iterator") (hd : o.data = .fields #[.ref l, .int i 0]) (hol : s.heap.get? l = some ol) (hdl : ol.data = .seq items nl) (hx : items[i]? = none) (hni : ∀ v, A.handled = some v → v ≠ .ref it)
  (hQ : ∀ h', KB [it] s.heap h' → Q none { s with heap := h' }) : wpAny (model prog w) A (pyNext (.ref it)) Q E s := by
 have hT : s.TypeIs (.ref it) "tuple_iterator" := ⟨o, ho, hc⟩
 unfold pyNext
 refine wpAny_bind (wpAny_attempt (wpAny_callSpecial?_slot (name := Str.ofString "__next__") hT slot_tupleiter_next (wpAny_call_entry slot_tupleiter_next hT entry_tupleiter_next ?_ (args_tupleiter_next _))))
 refine YS (A := A.in1) hh ho hd hol hdl hx hni fun h' e k he => ?_
 obtain ⟨oe, he, hce⟩ := he
 refine wpAny_bind (wpAny_isInstance (T := "StopIteration") (b := true) ⟨_, he, hce⟩ isSubtype_stop ?_)
 exact wpAny_pure (hQ _ k)
theorem KZ {it : Addr} {x left step : Int} {Q : Option Value → Shared → Prop} (hh : HOk A s.heap) (hit : IsRangeIter s.heap it x left step) (hleft : left ≤ 0)
  (hQ : ∀ h', KB [it] s.heap h' → Q none { s with heap := h' }) : wpAny (model prog w) A (pyNext (.ref it)) Q E s := by
 have hT : s.TypeIs (.ref it) "range_iterator" := ⟨_, hit, rfl⟩
 unfold pyNext
 refine wpAny_bind (wpAny_attempt (wpAny_callSpecial?_slot (name := Str.ofString "__next__") hT F.slot_range_iterator_next
  (wpAny_call_entry F.slot_range_iterator_next hT F.entry_range_iterator_next ?_ (F.args_range_iterator_next_1 _))))
 show wpAny _ _ (field (.ref it) 0 >>= _) _ _ s
 refine wpAny_bind (wpAny_field hit rfl (x := rawInt x) rfl ?_)
 show wpAny _ _ (field (.ref it) 1 >>= _) _ _ s
 refine wpAny_bind (wpAny_field hit rfl (x := rawInt left) rfl ?_)
 show wpAny _ _ (field (.ref it) 2 >>= _) _ _ s
 refine wpAny_bind (wpAny_field hit rfl (x := rawInt step) rfl ?_)
 show wpAny _ _ (if left ≤ 0 then _ else _) _ _ s
 rw [if_pos hleft]
 refine wpAny_bind (wpAny_rule ?_)
 refine wpAny_bind ?_
 show wpAny _ _ (newExc (.type "StopIteration") [] >>= fun e => raiseNew e) _ _ _
 refine VJ (A := A.in1) hh fun h' e k he => ?_
 obtain ⟨oe, he, hce⟩ := he
 refine wpAny_bind (wpAny_isInstance (T := "StopIteration") (b := true) ⟨_, he, hce⟩ isSubtype_stop ?_)
 exact wpAny_pure (hQ _ ⟨fun b o _ e => k b o e, fun b hb => by cases List.mem_singleton.mp hb; exact ⟨_, k _ _ hit⟩⟩)
end
noncomputable def X1 (o : Obj) : Prop := ∃ T vs, o.cls = .type T ∧ T ≠ "tuple" ∧ T ≠ "list" ∧ T ≠ "range" ∧ o.data = .fields vs
section
variable {G : Gd} {cx : Cx} {sc : Scope} {ρ : AEnv} {S : Addr → Prop} {h h' : Heap} {wr : List Addr}
theorem KB.carry (sh : ∀ b ∈ wr, ∃ o, h.get? b = some o ∧ X1 o) (k : KB wr h h') : Carry S h S h' where
 tup := fun e hc hd => k.1 _ _ (fun m => by obtain ⟨o, e', T, vs, h1, h2, h3, h4, h5⟩ := sh _ m; rw [e] at e'; cases e'; rw [hc] at h1; cases h1; exact h2 rfl) e
 list := fun hs e hc hd => ⟨hs, k.1 _ _ (fun m => by obtain ⟨o, e', T, vs, h1, h2, h3, h4, h5⟩ := sh _ m; rw [e] at e'; cases e'; rw [hc] at h1; cases h1; exact h3 rfl) e⟩
 range := fun e => k.1 _ _ (fun m => by obtain ⟨o, e', T, vs, h1, h2, h3, h4, h5⟩ := sh _ m; unfold IsRange at e; rw [e] at e'; cases e'; cases h1; exact h4 rfl) e
 exc := fun e hc hn hd r => .exc (k.1 _ _ (fun m => by obtain ⟨o, e', T, vs, h1, h2, h3, h4, h5⟩ := sh _ m; rw [e] at e'; cases e'; rw [hc] at h1; cases h1) e) hc hn hd r
 dom := fun a o e' => by
  by_cases hb : a ∈ wr
  ·exact k.2 a hb
  ·exact ⟨o, k.1 a o hb e'⟩
 obj := fun s1 s2 e n => ⟨s1, s2, k.1 _ _ (fun m => by obtain ⟨o, e', T, vs, h1, h2, h3, h4, h5⟩ := sh _ m; rw [e] at e'; cases e'; cases h1) e, by
  obtain ⟨o, es, ep, ho, hd, q⟩ := n
  exact ⟨o, es, ep, k.1 _ _ (fun m => by obtain ⟨o', e', T, vs, _, _, _, _, h5⟩ := sh _ m; rw [ho] at e'; cases e'; rw [hd] at h5; cases h5) ho, hd, q⟩⟩
theorem RV.aside (sh : ∀ b ∈ wr, ∃ o, h.get? b = some o ∧ X1 o) (k : KB wr h h') {v : Value} {d : D} (q : RV S h v d) : RV S h' v d := q.map (k.carry sh)
theorem RVs.aside (sh : ∀ b ∈ wr, ∃ o, h.get? b = some o ∧ X1 o) (k : KB wr h h') {vs : List Value} {ds : List D} (q : RVs S h vs ds) : RVs S h' vs ds := q.map (k.carry sh)
theorem KB.dom (k : KB wr h h') {b : Addr} {o : Obj} (e : h.get? b = some o) : ∃ o', h'.get? b = some o' := by
 by_cases hb : b ∈ wr
 ·exact k.2 b hb
 ·exact ⟨o, k.1 b o hb e⟩
theorem Rel.aside (r : Rel G cx sc ρ S h) (sh : ∀ b ∈ wr, ∃ o, h.get? b = some o ∧ X1 o) (new : ∀ b ∈ wr, cx.h₀.get? b = none ∧ G.B.get? b = none) (k : KB wr h h') : Rel G cx sc ρ S h' ∧ Qv cx.env h h' := by
 have nw : ∀ (a : Addr) (o : Obj), h.get? a = some o → (∀ vs, o.data ≠ .fields vs) → a ∉ wr := fun a o e hd m => by
  obtain ⟨o', e', T, vs, _, _, _, _, q⟩ := sh a m
  rw [e] at e'; cases e'; exact hd vs q
 have nsame : ∀ m, h.Ns cx.env.locals m → h'.Ns cx.env.locals m := fun m n => by
  obtain ⟨o, es, ep, ho, hd, q⟩ := n
  exact ⟨o, es, ep, k.1 _ _ (nw _ _ ho (by rw [hd]; intro vs q; cases q)) ho, hd, q⟩
 have csame : ∀ c w, h.IsCell c w → h'.IsCell c w := fun c w n => by
  obtain ⟨o, ho, hd⟩ := n
  exact ⟨o, k.1 _ _ (nw _ _ ho (by rw [hd]; intro vs q; cases q)) ho, hd⟩
 have hb : Qv cx.env h h' := fun y w q => by
  rcases q with ⟨a, m₁, b, c⟩ | ⟨a, c, b, d⟩
  ·exact .inl ⟨a, m₁, nsame m₁ b, c⟩
  ·exact .inr ⟨a, c, b, csame c _ d⟩
 have hf : ∀ y w, Var cx.env h' y w → Var cx.env h y w := fun y w q => by
  rcases q with ⟨a, m₁, b, c⟩ | ⟨a, c, b, d⟩
  ·obtain ⟨m₀, n₀⟩ := r.ns
   exact .inl ⟨a, m₀, n₀, by rw [(nsame m₀ n₀).agree b y]; exact c⟩
  ·obtain ⟨w₀, n₀⟩ := r.cells y c b
   exact .inr ⟨a, c, b, by rw [IsCell.inj d (csame c _ n₀)]; exact n₀⟩
 refine ⟨⟨fun b o q => k.1 b o (fun m => by rw [(new b m).2] at q; cases q) (r.base b o q), fun b o q => ?_, fun env he => ?_, let ⟨m, n⟩ := r.ns; ⟨m, nsame m n⟩, fun y c q => let ⟨w, n⟩ := r.cells y c q; ⟨w, csame c w n⟩, fun b q => let ⟨o, eo⟩ := r.sdom b q; k.dom eo, r.sok, r.sloc, r.scell, fun y b hdy q => let ⟨o, eo⟩ := r.live y b hdy (hf y _ q); k.dom eo, r.clean, fun v q => let ⟨C, e⟩ := r.hok v q; ⟨C, e.aside sh k⟩, fun j y u hy hu => ?_, fun j l y z m m' d d' u hy hz hj hl a b => r.inj j l y z m m' d d' u hy hz hj hl (hf y _ a) (hf z _ b), r.dok.back hf⟩, hb⟩
 ·obtain ⟨sl, q₁, k₁⟩ := r.keep b o q
  exact ⟨sl, k.1 b _ (fun m => by rw [(new b m).1] at q; cases q) q₁, k₁⟩
 ·obtain ⟨p, L, o, b, c, d, es, n, q⟩ := r.ff env he
  exact ⟨p, L, o, b, c, k.1 L o (nw _ _ d (by rw [q]; intro vs q; cases q)) d, es, n, q⟩
 ·obtain ⟨w, hw', tw⟩ := r.vars j y u hy hu
  refine ⟨w, hb y w hw', ?_⟩
  cases u with
  | sh d => exact RV.aside sh k tw
  | ow m d =>
   obtain ⟨b, rfl, n1, ow, n2⟩ := tw
   refine ⟨b, rfl, n1, ?_, n2⟩
   exact ow.map (k.carry sh) fun o e hd => ⟨o.slots, k.1 b _ (nw _ _ e (by rcases hd with ⟨_, _, hd⟩ | ⟨_, _, hd⟩ <;> (rw [hd]; intro vs q; cases q))) e, fun _ => rfl⟩
theorem Ext.aside {S₀ : Addr → Prop} {h₀ : Heap} (x : Ext S₀ h₀ S h) (new : ∀ b ∈ wr, h₀.get? b = Option.none) (k : KB wr h h') : Ext S₀ h₀ S h' :=
 ⟨x.sub, fun b o e q => by
  obtain ⟨sl, e₁, k₁⟩ := x.keep b o e q
  exact ⟨sl, k.1 b _ (fun m => by rw [new b m] at e; cases e) e₁, k₁⟩, fun b o e => by
  obtain ⟨o', e'⟩ := x.dom b o e
  exact k.dom e'⟩
end
structure ItK (G : Gd) (A : Around) (tg : Expr) (I : Addr) (wr : List Addr) (St : Nat → (Addr → Prop) → Heap → Prop) (ds : List D) : Prop where
 shape : ∀ i S h, St i S h → ∀ b ∈ wr, ∃ o, h.get? b = some o ∧ X1 o
 ext : ∀ i S h S' h', St i S h → Ext S h S' h' → St i S' h'
 item : ∀ i S (s : Shared) d (Q : Value → Shared → Prop) (E E' : Value → Shared → Prop), ds[i]? = some d → St i S s.heap →
  (∀ v h' tk, RV S h' v d → St (i + 1) S h' → KB wr s.heap h' → Q v { s with heap := h', toks := tk }) →
  wpAny G.M A (pyNext (.ref I)) (fun r s₁ => ∃ v, r = some v ∧ wpAny G.M A (letOwnedTupleGo tg (.ref I) v) (fun _ s₂ => Q v s₂) E' s₁) E s
 done : ∀ S (s : Shared) (Q : Option Value → Shared → Prop) (E : Value → Shared → Prop), St ds.length S s.heap → HOk A s.heap → (∀ v, A.handled = some v → ∀ b ∈ wr, v ≠ .ref b) →
  (∀ h' tk, KB wr s.heap h' → Q none { s with heap := h', toks := tk }) → wpAny G.M A (pyNext (.ref I)) Q E s
 self : ∀ i S (s : Shared) (Q : Value → Shared → Prop) (E : Value → Shared → Prop), St i S s.heap → Q (.ref I) s → wpAny G.M A (pyIter (.ref I)) Q E s
noncomputable def Gv (G : Gd) (cx : Cx) (sc : Scope) (tg : Expr) (S : Addr → Prop) (s : Shared) (Q : Value → Shared → Prop) (E : Value → Shared → Prop) : Res (List D) → Prop
 | .ok ds ρ' => ∀ (I : Addr) (wr : List Addr) (St : Nat → (Addr → Prop) → Heap → Prop) (S' : Addr → Prop) (h' : Heap) (tk : Nat), Rel G cx sc ρ' S' h' → ItK G cx.A tg I wr St ds → St 0 S' h' → (∀ b ∈ wr, s.heap.get? b = none) → Ext S s.heap S' h' → Qv cx.env s.heap h' → Q (.ref I) { s with heap := h', toks := tk }
 | .exc C ρ' => ∀ e h' tk S', Rel G cx sc ρ' S' h' → Fly s.heap h' e C → Ext S s.heap S' h' → E (.ref e) { s with heap := h', toks := tk }
 | .stuck => False
noncomputable def OH (G : Gd) (k : Nat) (sc : Scope) (tg e : Expr) (f : AEnv → Res (List D)) : Prop :=
 ∀ cx, CxOk G cx sc k → ∀ ρ S s, Rel G cx sc ρ S s.heap → ∀ Q E, Gv G cx sc tg S s Q E (f ρ) → wpAny G.M cx.A (eval e cx.env) (fun xv s₁ => wpAny G.M cx.A (pyIter xv) Q E s₁) E s
theorem KB.of_sameBut {a : Addr} {h h' : Heap} (k : Heap.SameBut a h h') (e : ∃ o, h'.get? a = some o) : KB [a] h h' := ⟨fun b o hb eb => (k.2 b (by simpa using hb)).trans eb, fun b hb => by rw [List.mem_singleton.mp hb]; exact e⟩
set_option tactic.hygienic true in
theorem UZ {prog : Program} {w : World} {A : Around} {E : Value → Shared → Prop} {s : Shared} {tg : Expr} {I : Addr} {o : Obj} {T : String} {vs : Array Value} {v : Value} {Q : Unit → Shared → Prop} (ho : s.heap.get? I = some o) (hc : o.cls = .type T) (hd : o.data = .fields vs)
  (hT : ["enumerate", "zip", "dict_itemiterator", "dict_reverseitemiterator", "odict_iterator", "itertools.zip_longest", "itertools.pairwise"].contains T = false) (h : Q () s) : wpAny (model prog w) A (letOwnedTupleGo tg (.ref I) v) Q E s := by
 obtain ⟨c, d, dt, sl⟩ := o
 cases hc
 cases hd
 have hf : ∀ a, (["enumerate", "zip", "dict_itemiterator", "dict_reverseitemiterator", "odict_iterator", "itertools.zip_longest", "itertools.pairwise"].contains T && vs[0]? == some (rawInt a)) = false := fun a => by rw [hT]; rfl
 cases tg <;> first | exact wpAny_pure h | skip
 all_goals
  cases v <;> first | exact wpAny_pure h | skip
  rename_i a
  refine wpAny_bind (m := load I) (wpAny_load ho ?_)
  show wpAny _ _ (if (["enumerate", "zip", "dict_itemiterator", "dict_reverseitemiterator", "odict_iterator", "itertools.zip_longest", "itertools.pairwise"].contains T && vs[0]? == some (rawInt a)) = true then _ else _) Q E s
  rw [if_neg (by rw [hf]; decide)]
  exact wpAny_pure h
section
variable {G : Gd} {A : Around} {tg : Expr}
noncomputable def US (T : String) (It : String) (I l : Addr) (ds : List D) (i : Nat) (S : Addr → Prop) (h : Heap) : Prop :=
 (∃ o, h.get? I = some o ∧ o.cls = .type It ∧ o.data = .fields #[.ref l, .int i 0]) ∧ ∃ o vs n, h.get? l = some o ∧ o.cls = .type T ∧ o.data = .seq vs n ∧ RVs S h vs.toList ds ∧ (T = "list" → S l)
theorem US.ext {T It : String} {I l : Addr} {ds : List D} (hT : T = "list" ∨ T = "tuple") : ∀ i S h S' h', US T It I l ds i S h → Ext S h S' h' → US T It I l ds i S' h' := by
 rintro i S h S' h' ⟨⟨o, a1, a2, a3⟩, ol, vs, n, b1, b2, b3, b4, b5⟩ x
 refine ⟨⟨o, x.exact a1 (.inr (.inr ⟨_, a3⟩)) (.fields a3), a2, a3⟩, ol, vs, n, x.exact b1 ?_ (.seq b3), b2, b3, b4.ext x, fun q => x.sub _ (b5 q)⟩
 rcases hT with rfl | rfl
 ·exact .inl (b5 rfl)
 ·exact .inr (.inl ⟨b2, _, _, b3⟩)
theorem Eg {I l : Addr} (hne : l ≠ I) (ds : List D) : ItK G A tg I [I] (US "list" "list_iterator" I l ds) ds where
 shape := fun i S h st b hb => by
  obtain ⟨⟨o, a1, a2, a3⟩, _⟩ := st
  exact ⟨o, by rw [List.mem_singleton.mp hb]; exact a1, _, _, a2, by decide, by decide, by decide, a3⟩
 ext := US.ext (.inl rfl)
 item := fun i S s d Q E E' hd st hQ => by
  obtain ⟨⟨o, a1, a2, a3⟩, ol, vs, n, b1, b2, b3, b4, b5⟩ := st
  obtain ⟨v, hv, rv⟩ := b4.get hd
  refine wpAny_pyNext_list_item ⟨o, a1, a2, a3⟩ ⟨ol, b1, b2, n, b3⟩ (by simpa using hv) fun h' it' k' => ⟨v, rfl, ?_⟩
  have it0 := it'
  obtain ⟨o', c1, c2, c3⟩ := it0
  have kb := KB.of_sameBut k' ⟨o', c1⟩
  have sh : ∀ b ∈ [I], ∃ o, s.heap.get? b = some o ∧ X1 o := fun b hb => ⟨o, by rw [List.mem_singleton.mp hb]; exact a1, _, _, a2, by decide, by decide, by decide, a3⟩
  exact UZ (s := { s with heap := h' }) c1 c2 c3 (by decide) (hQ v h' s.toks (rv.aside sh kb) ⟨⟨o', c1, c2, c3⟩, ol, vs, n, (k'.2 l hne).trans b1, b2, b3, b4.aside sh kb, b5⟩ kb)
 done := fun S s Q E st hh hni hQ => by
  obtain ⟨⟨o, a1, a2, a3⟩, ol, vs, n, b1, b2, b3, b4, b5⟩ := st
  exact WB hh a1 a2 a3 b1 b3 (by have := b4.length; simp at this; simp [this]) (fun v e => hni v e I (.head _)) fun h' k => hQ h' s.toks k
 self := fun i S s Q E st hQ => by
  obtain ⟨⟨o, a1, a2, a3⟩, _⟩ := st
  exact wpAny_pyIter_listiter ⟨o, a1, a2, a3⟩ hQ
theorem Dz {I l : Addr} (hne : l ≠ I) (ds : List D) : ItK G A tg I [I] (US "tuple" "tuple_iterator" I l ds) ds where
 shape := fun i S h st b hb => by
  obtain ⟨⟨o, a1, a2, a3⟩, _⟩ := st
  exact ⟨o, by rw [List.mem_singleton.mp hb]; exact a1, _, _, a2, by decide, by decide, by decide, a3⟩
 ext := US.ext (.inr rfl)
 item := fun i S s d Q E E' hd st hQ => by
  obtain ⟨⟨o, a1, a2, a3⟩, ol, vs, n, b1, b2, b3, b4, b5⟩ := st
  obtain ⟨v, hv, rv⟩ := b4.get hd
  refine next_tuple_item ⟨o, a1, a2, a3⟩ ⟨ol, b1, b2, n, b3⟩ (by simpa using hv) fun h' it' k' => ⟨v, rfl, ?_⟩
  have it0 := it'
  obtain ⟨o', c1, c2, c3⟩ := it0
  have kb := KB.of_sameBut k' ⟨o', c1⟩
  have sh : ∀ b ∈ [I], ∃ o, s.heap.get? b = some o ∧ X1 o := fun b hb => ⟨o, by rw [List.mem_singleton.mp hb]; exact a1, _, _, a2, by decide, by decide, by decide, a3⟩
  exact UZ (s := { s with heap := h' }) c1 c2 c3 (by decide) (hQ v h' s.toks (rv.aside sh kb) ⟨⟨o', c1, c2, c3⟩, ol, vs, n, (k'.2 l hne).trans b1, b2, b3, b4.aside sh kb, b5⟩ kb)
 done := fun S s Q E st hh hni hQ => by
  obtain ⟨⟨o, a1, a2, a3⟩, ol, vs, n, b1, b2, b3, b4, b5⟩ := st
  exact YR hh a1 a2 a3 b1 b3 (by have := b4.length; simp at this; simp [this]) (fun v e => hni v e I (.head _)) fun h' k => hQ h' s.toks k
 self := fun i S s Q E st hQ => by
  obtain ⟨⟨o, a1, a2, a3⟩, _⟩ := st
  exact wpAny_pyIter_tupleiter ⟨o, a1, a2, a3⟩ hQ
noncomputable def VN (I : Addr) (lo st : Int) (n : Nat) (i : Nat) (_ : Addr → Prop) (h : Heap) : Prop := IsRangeIter h I (lo + i * st) ((n : Int) - i) st
theorem C5 {I : Addr} (lo st : Int) (n : Nat) : ItK G A tg I [I] (VN I lo st n) ((List.range n).map fun (i : Nat) => D.int (lo + i * st)) where
 shape := fun i S h q b hb => by cases List.mem_singleton.mp hb; exact ⟨_, q, _, _, rfl, by decide, by decide, by decide, rfl⟩
 ext := fun i S h S' h' q x => x.exact q (.inr (.inr ⟨_, rfl⟩)) (.fields rfl)
 item := fun i S s d Q E E' hd q hQ => by
  have hi : i < n := by
   have := (List.getElem?_eq_some_iff.mp hd).1
   simpa using this
  have hdd : d = .int (lo + i * st) := by simp [hi] at hd; exact hd.symm
  subst hdd
  refine wpAny_pyNext_range_item q (by omega) fun h' it' k' => ⟨_, rfl, ?_⟩
  have q' : VN I lo st n (i + 1) S h' := by
   unfold VN
   have e1 : lo + (i : Int) * st + st = lo + ((i + 1 : Nat) : Int) * st := by rw [Int.natCast_add, Int.add_mul]; simp; omega
   have e2 : (n : Int) - i - 1 = (n : Int) - ((i + 1 : Nat) : Int) := by omega
   rw [← e1, ← e2]; exact it'
  exact UZ (s := { s with heap := h', toks := s.toks + 1 }) it' rfl rfl (by decide) (hQ _ h' _ (.int _ _) q' (KB.of_sameBut k' ⟨_, it'⟩))
 done := fun S s Q E q hh hni hQ => by
  have q : IsRangeIter s.heap I _ _ _ := q
  exact KZ hh q (by simp) fun h' k => hQ h' s.toks k
 self := fun i S s Q E q hQ => wpAny_pyIter_rangeiter q hQ
end
noncomputable def Zr : D → Option (List D)
 | .list ds => some ds
 | .tup ds => some ds
 | .range lo hi st => if X9 lo hi st then some (Ju lo hi st) else none
 | _ => none
noncomputable def Zh (f : AEnv → Res T) : AEnv → Res (List D) := fun ρ => (f ρ).bind fun t ρ₁ => match Zr t.val with
 | some ds => .ok ds ρ₁
 | none => .stuck
set_option tactic.hygienic true in
theorem Zo {G : Gd} {k : Nat} {sc : Scope} {tg e : Expr} {f : AEnv → Res T} (h : Sim G k sc e f) : OH G k sc tg e (Zh f) := by
 intro cx ok ρ S s r Q E out
 refine (h cx ok ρ S s r).shared _ _ ?_
 unfold Zh at out
 cases hf : f ρ with
 | stuck => rw [hf] at out; exact out.elim
 | exc C ρ₁ => rw [hf] at out; exact out
 | ok t ρ₁ =>
  rw [hf] at out
  simp only [Res.bind] at out ⊢
  intro v h₁ t₁ S₁ r₁ j₁ x₁ v₁
  have nw : ∀ b ∈ [h₁.objs.size], s.heap.get? b = none := fun b hb => by
   rw [List.mem_singleton.mp hb]
   exact x₁.none (Heap.get?_none_of_le (Nat.le_refl _))
  cases hd : Zr t.val with
  | none => rw [hd] at out; exact out.elim
  | some ds =>
   rw [hd] at out
   simp only at out
   unfold Zr at hd
   split at hd
   ·rename_i ds' e
    cases hd
    rw [e] at j₁
    cases j₁ with
    | list hs e1 e2 e3 q =>
     rename_i a o vs n
     refine wpAny_pyIter_list (s := { s with heap := h₁, toks := t₁ }) ⟨o, e1, e2.1, n, e3⟩ ?_
     have hne : a ≠ h₁.objs.size := fun e => by rw [e, Heap.get?_none_of_le (Nat.le_refl _)] at e1; cases e1
     exact out _ [h₁.objs.size] _ S₁ _ t₁ (Rel.push (s := { s with heap := h₁ }) r₁ _) (Eg hne ds) ⟨⟨_, Heap.get?_push_size _ rfl, rfl, rfl⟩, o, vs, n, Heap.get?_push_of_some _ e1, e2.1, e3, q.ext (Q8 _), fun _ => hs⟩ nw (x₁.trans (Q8 _)) ((v₁ rfl).trans (r₁.same (XD _)))
   ·rename_i ds' e
    cases hd
    rw [e] at j₁
    cases j₁ with
    | tup e1 e2 e3 q =>
     rename_i a o vs n
     refine iter_tuple (s := { s with heap := h₁, toks := t₁ }) ⟨o, e1, e2, n, e3⟩ ?_
     have hne : a ≠ h₁.objs.size := fun e => by rw [e, Heap.get?_none_of_le (Nat.le_refl _)] at e1; cases e1
     exact out _ [h₁.objs.size] _ S₁ _ t₁ (Rel.push (s := { s with heap := h₁ }) r₁ _) (Dz hne ds) ⟨⟨_, Heap.get?_push_size _ rfl, rfl, rfl⟩, o, vs, n, Heap.get?_push_of_some _ e1, e2, e3, q.ext (Q8 _), fun q => absurd q (by decide)⟩ nw (x₁.trans (Q8 _)) ((v₁ rfl).trans (r₁.same (XD _)))
   ·rename_i lo hi st e
    rw [e] at j₁
    split at hd
    ·rename_i hf
     cases hd
     obtain ⟨f1, f2, f3⟩ := UW hf
     cases j₁ with
     | range hr =>
      refine wpAny_pyIter_range (s := { s with heap := h₁, toks := t₁ }) hr f1 ?_
      refine out _ [h₁.objs.size] _ S₁ _ t₁ (Rel.push (s := { s with heap := h₁ }) r₁ _) (C5 lo st (U1 lo hi st)) ?_ nw (x₁.trans (Q8 _)) ((v₁ rfl).trans (r₁.same (XD _)))
      show IsRangeIter _ _ _ _ _
      rw [f2]
      simpa using Heap.get?_push_size _ rfl
    ·cases hd
   ·cases hd
end Mine
end

section
set_option Elab.async false
set_option maxRecDepth 100000
namespace Mine
open PySem PyProof.Rows
noncomputable def Jx (cx : Cx) (sc : Scope) (x : Str) : Prop := sc.names.lookup x = some .local ∨ (sc.names.lookup x = some .cell ∧ ∃ c, cx.env.cells.lookup x = some c ∧ cx.h₀.get? c = none)
noncomputable def Kt (G : Gd) (sc : Scope) (tg : Expr) (xs : List Str) (b : D → AEnv → Option AEnv) : Prop :=
 ∀ cx k, CxOk G cx sc k → FnCx G cx → (∀ x ∈ xs, Jx cx sc x) → ∀ ρ S s v d ρ', Rel G cx sc ρ S s.heap → RV S s.heap v d → b d ρ = some ρ' → Qq G cx sc false (assign tg cx.env v) S s (fun _ _ _ (_ : Unit) => True) (.ok () ρ')
noncomputable def Xl (i : Nat) : D → AEnv → Option AEnv := fun d ρ => some (ρ.set i (some (.sh d)))
theorem O9 {G : Gd} {sc : Scope} {x : Str} {p : Pos} {i : Nat} (hx : (Qf sc)[i]? = some x) : Kt G sc (.Name x p) [x] (Xl i) := by
 intro cx k ok fn hn ρ S s v d ρ' r q e
 cases e
 rw [PySem.assign_Name]
 exact Qq.standAt ((Oo (ok.mono (Nat.zero_le _)) fn r hx (hn x (.head _)) (.inr ⟨d, rfl⟩) (t := .sh d) q).wp fun Q E h => wpAny_bindName h)
noncomputable def Cq : List Nat → List D → AEnv → Option AEnv
 | [], [], ρ => some ρ
 | i :: is, d :: ds, ρ => Cq is ds (ρ.set i (some (.sh d)))
 | _, _, _ => none
noncomputable def Je (is : List Nat) : D → AEnv → Option AEnv
 | .tup ds, ρ => if ds.length = is.length then Cq is ds ρ else none
 | _, _ => none
inductive Names (sc : Scope) : List Expr → List Str → List Nat → Prop
 | nil : Names sc [] [] []
 | cons {x : Str} {p : Pos} {i : Nat} {es : List Expr} {xs : List Str} {is : List Nat} : (Qf sc)[i]? = some x → Names sc es xs is → Names sc (.Name x p :: es) (x :: xs) (i :: is)
theorem Names.each {sc : Scope} {es : List Expr} {xs : List Str} {is : List Nat} (h : Names sc es xs is) (env : Env) : (assignEach es env).length = is.length ∧ (assignEach es env).findIdx? (·.1) = none := by
 induction h with
 | nil => exact ⟨rfl, rfl⟩
 | cons _ _ ih =>
  obtain ⟨l, f⟩ := ih
  refine ⟨congrArg (· + 1) l, ?_⟩
  show List.findIdx? (·.1) ((false, _) :: assignEach _ env) = none
  rw [List.findIdx?_cons, f]; rfl
theorem VR {G : Gd} {sc : Scope} {cx : Cx} {k : Nat} (ok : CxOk G cx sc k) (fn : FnCx G cx) {es : List Expr} {xs : List Str} {is : List Nat} (h : Names sc es xs is) : (∀ x ∈ xs, Jx cx sc x) → ∀ {vs : List Value} {ds : List D} {ρ ρ' : AEnv} {S : Addr → Prop} {s : Shared}, Rel G cx sc ρ S s.heap → RVs S s.heap vs ds → Cq is ds ρ = some ρ' →
  Qq G cx sc false (assignInOrder ((assignEach es cx.env).map (·.2)) vs) S s (fun _ _ _ (_ : Unit) => True) (.ok () ρ') := by
 induction h with
 | nil =>
  intro _ vs ds ρ ρ' S s r q e
  cases q with
  | nil => cases e; exact Qq.pure r trivial
  | cons _ _ => cases e
 | cons hx _ ih =>
  intro hn vs ds ρ ρ' S s r q e
  cases q with
  | nil => cases e
  | cons q1 q2 =>
   intro Q E out
   refine assignInOrder_cons (O9 hx cx k ok fn (fun y hy => by rw [List.mem_singleton.mp hy]; exact hn _ (.head _)) ρ S s _ _ _ r q1 rfl _ _ ?_)
   intro _ h₁ t₁ S₁ r₁ _ x₁ _
   refine ih (fun y hy => hn y (.tail _ hy)) (s := { s with heap := h₁, toks := t₁ }) r₁ (q2.ext x₁) e _ _ ?_
   intro _ h₂ t₂ S₂ r₂ _ x₂ _
   exact out () h₂ t₂ S₂ r₂ trivial (x₁.trans x₂) fun z => by cases z
section
variable {prog : Program} {w : World} {A : Around} {E : Value → Shared → Prop} {s : Shared}
theorem Kv {t : Addr} {items : Array Value} {Q : List Value → Shared → Prop} (hh : HOk A s.heap) (ht : IsTup s.heap t items)
  (hQ : ∀ h', (∀ b o, s.heap.get? b = some o → h'.get? b = some o) → Q items.toList { s with heap := h' }) : wpAny (model prog w) A (unpackItems (.ref t) items.size none) Q E s := by
 have hlt : t ≠ s.heap.objs.size := by obtain ⟨o, ho, _⟩ := ht; exact Nat.ne_of_lt (Heap.lt_size ho)
 unfold unpackItems
 refine wpAny_bind ?_
 ·unfold notIterableAtAll
  refine wpAny_bind (wpAny_specialOf ht.typeIs slot_tuple_iter.lookup ?_)
  refine wpAny_pure ?_
  simp only [Bool.false_eq_true, if_false]
  refine wpAny_bind (wpAny_holding (iter_tuple ht ?_))
  refine wpAny_bind (wpAny_holding (draw_tuple hlt items.size 0 _ _ ⟨_, Heap.get?_push_size _ rfl, rfl, rfl⟩ (ht.push _) (by omega) fun h₁ hit₁ hs₁ => ?_))
  have hall : List.take items.size (List.drop 0 items.toList) = items.toList := by
   rw [List.drop_zero]; exact List.take_of_length_le (by simp)
  rw [hall]
  rw [if_neg (by simp)]
  have ht₁ : IsTup h₁ t items := (ht.push _).extBut hs₁.extBut hlt
  obtain ⟨oi, i1, i2, i3⟩ := hit₁
  obtain ⟨ot, t1, t2, nt, t3⟩ := ht₁
  have keep : ∀ b o, s.heap.get? b = some o → h₁.get? b = some o := fun b o e => hs₁.extBut b o (Nat.ne_of_lt (Heap.lt_size e)) (Heap.get?_push_of_some _ e)
  refine wpAny_bind (wpAny_holding (YR (s := { s with heap := h₁ }) (hh.keeps fun b o vs e hd h2 => ⟨o, vs, keep b o e, hd, h2⟩) i1 i2 i3 t1 t3 (by simp) (fun v hv => ?_) fun h₂ k₂ => ?_))
  ·obtain ⟨a, o, vs, rfl, h1, _⟩ := hh v hv
   intro q
   cases q
   exact absurd (Heap.lt_size h1) (Nat.lt_irrefl _)
  simp only [Option.isSome_none, Bool.false_eq_true, if_false]
  refine wpAny_pure (hQ h₂ fun b o e => k₂.1 b o (by simp; exact Nat.ne_of_lt (Heap.lt_size e)) (keep b o e))
end
set_option tactic.hygienic true in
theorem UV {G : Gd} {sc : Scope} {es : List Expr} {xs : List Str} {is : List Nat} {n : Nat} {p : Pos} (h : Names sc es xs is) : Kt G sc (.Tuple es n p) xs (Je is) := by
 intro cx k ok fn hn ρ S s v d ρ' r q e
 unfold Je at e
 split at e
 ·rename_i ds
  split at e
  ·rename_i hl
   cases q with
   | tup e1 e2 e3 q =>
    rename_i a o vs m
    rw [assign_Tuple]
    refine Qq.standAt ?_
    intro Q E out
    unfold unpack
    obtain ⟨l, f⟩ := h.each cx.env
    have hsz : vs.size = ds.length := by rw [← q.length]; simp
    rw [l, f, ← hl, ← hsz]
    refine wpAny_bind (wpAny_holding (Kv r.hOk ⟨o, e1, e2, m, e3⟩ fun h' hk => ?_))
    obtain ⟨r', x', v'⟩ := r.keepsE hk
    refine VR ok fn h hn (s := { s with heap := h' }) r' (q.ext x') e _ _ ?_
    intro _ h₂ t₂ S₂ r₂ _ x₂ _
    exact out () h₂ t₂ S₂ r₂ trivial (x'.trans x₂) fun z => by cases z
  ·cases e
 ·cases e
noncomputable def ZH (b : D → AEnv → Option AEnv) (body : AEnv → Res Fl) : List D → AEnv → Res Fl
 | [], ρ => .ok .next ρ
 | d :: ds, ρ => match b d ρ with
  | none => .stuck
  | some ρ₁ => (body ρ₁).bind fun fl ρ₂ => match fl with
   | .next => ZH b body ds ρ₂
   | .cont => ZH b body ds ρ₂
   | .brk => .ok .next ρ₂
   | .ret t => .ok (.ret t) ρ₂
noncomputable def UX (src : AEnv → Res (List D)) (b : D → AEnv → Option AEnv) (body : AEnv → Res Fl) : AEnv → Res Fl := fun ρ => (src ρ).bind fun ds ρ₁ => ZH b body ds ρ₁
theorem X8 {α : Type} {l : List α} {i : Nat} {d : α} (h : l[i]? = some d) : l.drop i = d :: l.drop (i + 1) := by
 obtain ⟨h1, rfl⟩ := List.getElem?_eq_some_iff.mp h
 exact List.drop_eq_getElem_cons h1
theorem Eh {A : Around} {h : Heap} (hh : HOk A h) {wr : List Addr} (new : ∀ b ∈ wr, h.get? b = none) : ∀ v, A.handled = some v → ∀ b ∈ wr, v ≠ .ref b := fun v hv b hb q => by
 obtain ⟨a, o, vs, rfl, h1, _⟩ := hh v hv
 cases q
 rw [new _ hb] at h1; cases h1
section
variable {G : Gd} {k : Nat} {sc : Scope}
theorem DX {tg iter : Expr} {body : List Stmt} {pos : Pos} {src : AEnv → Res (List D)} {xs : List Str} {b : D → AEnv → Option AEnv} {f : AEnv → Res Fl} (hi : OH G k sc tg iter src) (ht : Kt G sc tg xs b) (hxs : ∀ x ∈ xs, sc.names.lookup x = some .local ∨ sc.names.lookup x = some .cell) (hb : YI G k sc body f)
  (hs : ∀ env x, foldedSetIterable iter env x = pure x) : Yk G k sc (.For tg iter body [] pos) (UX src b f) := by
 intro cx ok fn ρ S s r Q E out
 refine wpAny_For ?_ (hs cx.env)
 refine hi cx ok ρ S s r _ _ ?_
 unfold UX at out
 cases hsrc : src ρ with
 | stuck => rw [hsrc] at out; exact out.elim
 | exc C ρ₁ => rw [hsrc] at out; exact out
 | ok ds ρ₁ =>
  rw [hsrc] at out
  simp only [Res.bind] at out
  intro I wr St S₁ h₁ t₁ r₁ it st₁ nw x₁ v₁
  have hn : ∀ x ∈ xs, Jx cx sc x := fun x hx => (hxs x hx).imp id fun q => ⟨q, fn.has x (by unfold Env.kindOf; rw [ok.hsc]; exact q)⟩
  have new : ∀ b ∈ wr, cx.h₀.get? b = none ∧ G.B.get? b = none := fun b hb => ⟨r.keep.none (nw b hb), by
   cases q : G.B.get? b with
   | none => rfl
   | some o => have := r.base b o q; rw [nw b hb] at this; cases this⟩
  have err : ∀ {C : Addr} {ρ' : AEnv} {e : Addr} {h' : Heap} {tk : Nat} {S' : Addr → Prop}, Out G cx sc false S s (fun S' h' a b => FlJ cx S' h' a b) Q E (.exc C ρ') → Rel G cx sc ρ' S' h' → Fly s.heap h' e C → Ext S s.heap S' h' → notedBy G.M cx.A cx.env (fun e s' => cameBackBy G.M cx.A cx.env E e s') (.ref e) { s with heap := h', toks := tk } := by
   intro C ρ' e h' tk S' o r' f' x'
   refine W1 ok r r' x' f' ⟨h', tk, rfl⟩ fun h₂ t₂ r₂ f₂ x₂ => ?_
   exact KR r r₂ x₂ f₂ ⟨h₂, t₂, rfl⟩ fun h₃ t₃ r₃ f₃ x₃ => o e h₃ t₃ S' r₃ f₃.fly x₃
  obtain ⟨Inv, hI⟩ : ∃ Inv : Nat → Shared → Prop, ∀ m s', Inv m s' ↔ ∃ i ρ' S' h' tk, m = ds.length + 1 - i ∧ i ≤ ds.length ∧ s' = { s with heap := h', toks := tk } ∧ Rel G cx sc ρ' S' h' ∧ St i S' h' ∧ Ext S s.heap S' h' ∧ Out G cx sc false S s (fun S' h' a b => FlJ cx S' h' a b) Q E (ZH b f (ds.drop i) ρ') := ⟨_, fun _ _ => Iff.rfl⟩
  refine codeAny_forLoop_any Inv ?_ (ds.length + 1) ((hI _ _).mpr ⟨0, ρ₁, S₁, h₁, t₁, rfl, Nat.zero_le _, rfl, r₁, st₁, x₁, by rw [List.drop_zero]; exact out⟩)
  generalize (notedBy G.M cx.A cx.env fun e s' => cameBackBy G.M cx.A cx.env E e s') = EN at err ⊢
  intro m s' hinv
  obtain ⟨i, ρ', S', h', tk, rfl, hi', rfl, r', st', x', out'⟩ := (hI _ _).mp hinv
  by_cases hlt : i < ds.length
  ·have hd : ds[i]? = some ds[i] := List.getElem?_eq_getElem hlt
   rw [X8 hd] at out'
   rw [ZH] at out'
   cases hbd : b ds[i] ρ' with
   | none => rw [hbd] at out'; exact out'.elim
   | some ρ₂ =>
    rw [hbd] at out'
    simp only at out'
    refine wpAny_mono (it.item i S' { s with heap := h', toks := tk } ds[i] _ _ EN hd st' fun v h₂ t₂ rv st₂ kb => (?_ : (fun v s₂ => wpAny G.M cx.A (assign tg cx.env v) (fun _ s₂ => wpAny G.M cx.A (execs body cx.env) (fun f s₃ => match f with
      | .next | .cont => ∃ m', m' < ds.length + 1 - i ∧ Inv m' s₃
      | .brk => Q .next s₃
      | .ret v => Q (.ret v) s₃) EN s₂) EN s₂) v _)) (fun rr s₁ h₁ => by
       obtain ⟨v, rfl, h₁⟩ := h₁
       exact h₁) fun _ _ e => e
    obtain ⟨r₂, v₂⟩ := r'.aside (it.shape i S' h' st') new kb
    have x₂ := x'.aside nw kb
    refine ht cx k ok fn.toFnCx hn ρ' S' { s with heap := h₂, toks := t₂ } v ds[i] ρ₂ r₂ rv hbd _ _ ?_
    intro _ h₃ t₃ S₃ r₃ _ x₃ _
    have st₃ := it.ext _ _ _ _ _ st₂ x₃
    refine hb cx ok fn ρ₂ S₃ { s with heap := h₃, toks := t₃ } r₃ _ _ ?_
    cases hf : f ρ₂ with
    | stuck => rw [hf] at out'; exact out'.elim
    | exc C ρ₃ =>
     rw [hf] at out'
     intro e h₄ t₄ S₄ r₄ f₄ x₄
     exact err out' r₄ (f₄.back (x₂.trans x₃)) ((x₂.trans x₃).trans x₄)
    | ok fl ρ₃ =>
     rw [hf] at out'
     simp only [Res.bind] at out'
     intro a h₄ t₄ S₄ r₄ j₄ x₄ _
     have st₄ := it.ext _ _ _ _ _ st₃ x₄
     have xx := (x₂.trans x₃).trans x₄
     cases a <;> cases fl <;> first
      | exact j₄.elim
      | exact ⟨ds.length + 1 - (i + 1), by omega, (hI _ _).mpr ⟨i + 1, ρ₃, S₄, h₄, t₄, rfl, hlt, rfl, r₄, st₄, xx, out'⟩⟩
      | exact out' _ h₄ t₄ S₄ r₄ j₄ xx fun q => by cases q
  ·have hie : i = ds.length := by omega
   subst hie
   rw [List.drop_length] at out'
   refine it.done S' { s with heap := h', toks := tk } _ _ st' r'.hOk (Eh r.hOk nw) fun h₂ t₂ kb => ?_
   obtain ⟨r₂, v₂⟩ := r'.aside (it.shape _ S' h' st') new kb
   exact wpAny_execs_nil (out' .next h₂ t₂ S' r₂ trivial (x'.aside nw kb) fun q => by cases q)
end
end Mine
end

section
set_option Elab.async false
set_option maxRecDepth 100000
namespace Mine
open PySem PyProof.Rows
section
variable {prog : Program} {w : World} {A : Around} {E : Value → Shared → Prop} {s : Shared}
theorem Y1 {it l : Addr} {i : Nat} {items} {x : Value} {Q : Value → Shared → Prop} (hit : IsTupIter s.heap it l i) (hl : IsTup s.heap l items) (hx : items[i]? = some x)
  (hQ : ∀ h', IsTupIter h' it l (i + 1) → Heap.SameBut it s.heap h' → Q x { s with heap := h' }) : wpAny (model prog w) A (Builtin.SmallTypes.nextOf (.ref it)) Q E s := by
 obtain ⟨o, ho, hc, hd⟩ := id hit
 obtain ⟨ol, hol, _, nl, hdl⟩ := hl
 unfold Builtin.SmallTypes.nextOf
 refine wpAny_bind (wpAny_callSpecial?_slot (name := Str.ofString "__next__") hit.typeIs slot_tupleiter_next
  (wpAny_call_entry slot_tupleiter_next hit.typeIs entry_tupleiter_next ?_ (args_tupleiter_next _)))
 show wpAny _ _ (field (.ref it) 0 >>= _) _ _ s
 refine wpAny_bind (wpAny_field ho hd (x := .ref l) rfl ?_)
 show wpAny _ _ (if (Value.ref l == Value.none) = true then _ else _) _ _ s
 rw [if_neg (show ¬ ((Value.ref l == Value.none) = true) from Bool.false_ne_true)]
 show wpAny _ _ (field (.ref it) 1 >>= _) _ _ s
 refine wpAny_bind (wpAny_field ho hd (x := .int i 0) rfl ?_)
 show wpAny _ _ (seqItems? (.ref l) >>= _) _ _ s
 refine wpAny_bind (wpAny_seqItems hol hdl ?_)
 simp only [Int.toNat_natCast, hx]
 refine wpAny_bind (wpAny_setField ho hd (by simp) (wpAny_pure ⟨x, rfl, wpAny_pure (hQ _ ?_ (Heap.SameBut.update ..))⟩))
 exact ⟨_, Heap.get?_update_self _ ho (Obj.isFreed_of_fields (Obj.data_mapFields hd _)), (Obj.cls_mapFields ..).trans hc, by
  rw [Obj.data_mapFields hd]; simp [rawInt]⟩
theorem Jq {it l : Addr} {i : Nat} {items} {Q : Value → Shared → Prop} (hh : HOk A s.heap) (hni : ∀ v, A.handled = some v → v ≠ .ref it) (hit : IsTupIter s.heap it l i) (hl : IsTup s.heap l items) (hx : items[i]? = none)
  (hE : ∀ h' e, KB [it] s.heap h' → (∃ o, h'.get? e = some o ∧ o.cls = .type "StopIteration") → E (.ref e) { s with heap := h' }) : wpAny (model prog w) A (Builtin.SmallTypes.nextOf (.ref it)) Q E s := by
 obtain ⟨o, ho, hc, hd⟩ := id hit
 obtain ⟨ol, hol, _, nl, hdl⟩ := hl
 unfold Builtin.SmallTypes.nextOf
 refine wpAny_bind (wpAny_callSpecial?_slot (name := Str.ofString "__next__") hit.typeIs slot_tupleiter_next
  (wpAny_call_entry slot_tupleiter_next hit.typeIs entry_tupleiter_next ?_ (args_tupleiter_next _)))
 exact YS (A := A.in1) hh ho hd hol hdl hx hni hE
theorem JT {it l : Addr} {i : Nat} {items} {Q : Value → Shared → Prop} (hh : HOk A s.heap) (hni : ∀ v, A.handled = some v → v ≠ .ref it) (hit : s.heap.IsListIter it l i) (hl : s.heap.IsList l items) (hx : items[i]? = none)
  (hE : ∀ h' e, KB [it] s.heap h' → (∃ o, h'.get? e = some o ∧ o.cls = .type "StopIteration") → E (.ref e) { s with heap := h' }) : wpAny (model prog w) A (Builtin.SmallTypes.nextOf (.ref it)) Q E s := by
 obtain ⟨o, ho, hc, hd⟩ := id hit
 obtain ⟨ol, hol, _, nl, hdl⟩ := hl
 unfold Builtin.SmallTypes.nextOf
 refine wpAny_bind (wpAny_callSpecial?_slot (name := Str.ofString "__next__") hit.typeIs slot_listiter_next
  (wpAny_call_entry slot_listiter_next hit.typeIs entry_listiter_next ?_ (args_listiter_next _)))
 exact YZ (A := A.in1) hh ho hd hol hdl hx hni hE
end
theorem KB.ext {a : Addr} {h h' : Heap} (k : KB [a] h h') : Heap.ExtBut a h h' := fun b o hb e => k.1 b o (by simpa using hb) e
theorem Bo {prog : Program} {w : World} {A : Around} (hh : A.handled = none) (it l : Addr) (hne : l ≠ it) (items : Array Value) :
  Draws prog w A it [it, l] items.size (fun i v => items[i]? = some v) (fun i h => IsTupIter h it l i ∧ IsTup h l items) where
 live := fun _ _ st => let ⟨o, ho, _⟩ := st.1; ⟨o, ho⟩
 frame := fun _ _ _ st hk => ⟨let ⟨o, ho, r⟩ := st.1; ⟨o, hk it (by simp) o ho, r⟩, let ⟨o, ho, r⟩ := st.2; ⟨o, hk l (by simp) o ho, r⟩⟩
 item := fun i s Q E hi st hQ => by
  refine Y1 st.1 st.2 (x := items[i]) (by simp [hi]) fun h' hit' hs' => ?_
  exact hQ _ h' s.toks (by simp [hi]) ⟨hit', st.2.extBut hs'.extBut hne⟩ hs'
 done := fun s Q E st hE => Jq (fun v e => by rw [hh] at e; cases e) (fun v e => by rw [hh] at e; cases e) st.1 st.2 (by simp) fun h' e k he => hE h' e k.ext he
open AutoSeq1 (wpAny_loadPart') in
set_option tactic.hygienic true in
theorem J7 (l : Addr) (items : Array Value) (n : Nat) (dct : Option Addr) (sl : Array (Option Value)) :
  Meets (Builtin.«enumerate.__new__» ⟨[.type "enumerate", .ref l], []⟩) (fun _ R s => s.heap.get? l = some { cls := .type "tuple", dict := dct, data := .seq items n, slots := sl } ∧
   R (.ok (.ret (.ref (s.heap.push { cls := .type "tuple_iterator", data := .fields #[.ref l, .int 0 0] }).objs.size)))
    { s with heap := (s.heap.push { cls := .type "tuple_iterator", data := .fields #[.ref l, .int 0 0] }).push { cls := .type "enumerate", data := .fields #[.none, .bool false, .ref s.heap.objs.size, rawInt 0, .none, .none] } }) :=
 .of_wp fun prog w A R s h => by
  obtain ⟨hp, g, d, tk, os⟩ := s; obtain ⟨hl, h⟩ := h
  have hsub := sub_enumerate
  have hL : IsTup (Shared.heap ⟨hp, g, d, tk, os⟩) l items := ⟨_, hl, rfl, n, rfl⟩
  wp_walk using wpAny_loadPart' hl
  refine wpAny_stack_any fun st => wpAny_pure ?_
  split
  ·rename_i c _ _ _ _ _
   cases (c == Value.type "enumerate")
   ·wp_walk using wpAny_loadPart' hl, iter_tuple hL
    exact ⟨_, rfl, h⟩
   ·wp_walk using wpAny_loadPart' hl, iter_tuple hL
    exact ⟨_, rfl, h⟩
  ·wp_walk using wpAny_loadPart' hl, iter_tuple hL
   exact ⟨_, rfl, h⟩
theorem J1 {prog : Program} {w : World} {A : Around} {E : Value → Shared → Prop} {s : Shared} {l : Addr} {items : Array Value} {Q : Value → Shared → Prop} (hL : IsTup s.heap l items)
  (h : ∀ h', IsEnum h' (s.heap.objs.size + 1) s.heap.objs.size 0 .none → IsTupIter h' s.heap.objs.size l 0 → (∀ b o, s.heap.get? b = some o → h'.get? b = some o) → Q (.ref (s.heap.objs.size + 1)) { s with heap := h' }) :
  wpAny (model prog w) A (call (.type "enumerate") [.ref l]) Q E s := by
 obtain ⟨⟨c, dct, dt, sl⟩, hl, hc, n, hd⟩ := hL
 replace hc : c = .type "tuple" := hc
 replace hd : dt = .seq items n := hd
 subst hc hd
 refine callType_new F.called_enumerate (by decide) (F.typeCall_enumerate_1 _) (F.newCall_enumerate_1 _) (fun obj => F.args_object_init_2 obj _) F.entry_enumerate_new
  (J7 l items n dct sl) ⟨hl, ?_⟩
 have hz : (s.heap.push { cls := .type "tuple_iterator", data := .fields #[.ref l, .int 0 0] }).objs.size = s.heap.objs.size + 1 := Heap.size_push ..
 show _ ∧ _
 rw [hz]
 have he : IsEnum ((s.heap.push { cls := .type "tuple_iterator", data := .fields #[.ref l, .int 0 0] }).push
   { cls := .type "enumerate", data := .fields #[.none, .bool false, .ref s.heap.objs.size, rawInt 0, .none, .none] }) (s.heap.objs.size + 1) s.heap.objs.size 0 .none := by
  have := Heap.get?_push_size (s.heap.push { cls := .type "tuple_iterator", data := .fields #[.ref l, .int 0 0] })
   (o := { cls := .type "enumerate", data := .fields #[.none, .bool false, .ref s.heap.objs.size, rawInt 0, .none, .none] }) rfl
  rw [hz] at this; exact this
 exact ⟨⟨_, he, rfl⟩, h _ he ⟨_, Heap.get?_push_of_some _ (Heap.get?_push_size _ rfl), rfl, rfl⟩ fun b o x => Heap.get?_push_of_some _ (Heap.get?_push_of_some _ x)⟩
noncomputable def JO (ds : List D) : List D := ds.zipIdx.map fun x => .tup [.int x.2, x.1]
theorem Vh {ds : List D} {i : Nat} {d : D} (h : (JO ds)[i]? = some d) : ∃ e, ds[i]? = some e ∧ d = .tup [.int i, e] := by
 unfold JO at h
 rw [List.getElem?_map] at h
 obtain ⟨x, hx, rfl⟩ := Option.map_eq_some_iff.mp h
 rw [List.getElem?_zipIdx] at hx
 obtain ⟨e, he, rfl⟩ := Option.map_eq_some_iff.mp hx
 exact ⟨e, he, by simp⟩
noncomputable def Cv (T It : String) (e it l : Addr) (ds : List D) (i : Nat) (S : Addr → Prop) (h : Heap) : Prop := (∃ old, IsEnum h e it i old) ∧ US T It it l ds i S h
section
variable {G : Gd} {A : Around} {es : List Expr} {n : Nat} {p : Pos}
theorem JB {T It : String} {e it l : Addr} {ds : List D} (hIt : It ≠ "tuple" ∧ It ≠ "list" ∧ It ≠ "range") : ∀ i S h, Cv T It e it l ds i S h → ∀ b ∈ [e, it], ∃ o, h.get? b = some o ∧ X1 o := by
 rintro i S h ⟨⟨old, he⟩, ⟨o, a1, a2, a3⟩, _⟩ b hb
 rcases List.mem_cons.mp hb with rfl | hb
 ·exact ⟨_, he, _, _, rfl, by decide, by decide, by decide, rfl⟩
 ·rw [List.mem_singleton.mp hb]
  exact ⟨o, a1, _, _, a2, hIt.1, hIt.2.1, hIt.2.2, a3⟩
theorem Dc {e it l : Addr} (hh : A.handled = none) (hei : e ≠ it) (hle : l ≠ e) (hli : l ≠ it) (ds : List D) : ItK G A (.Tuple es n p) e [e, it] (Cv "tuple" "tuple_iterator" e it l ds) (JO ds) where
 shape := JB (by decide)
 ext := fun i S h S' h' st x => ⟨let ⟨old, he⟩ := st.1; ⟨old, x.exact he (.inr (.inr ⟨_, rfl⟩)) (.fields rfl)⟩, US.ext (.inr rfl) i S h S' h' st.2 x⟩
 item := fun i S s d Q E E' hd st hQ => by
  obtain ⟨x, hx, rfl⟩ := Vh hd
  have sh := JB (by decide) i S s.heap st
  obtain ⟨⟨old, he⟩, ⟨o, a1, a2, a3⟩, ol, vs, m, b1, b2, b3, b4, b5⟩ := st
  obtain ⟨v, hv, rv⟩ := b4.get hx
  have hi : i < vs.size := by
   have := (List.getElem?_eq_some_iff.mp hv).1
   simpa using this
  refine wpAny_pyNext_enum_itemD (Bo (A := A.in1) hh it l hli vs) he ⟨⟨o, a1, a2, a3⟩, ol, b1, b2, m, b3⟩ hi hei (by simp; exact ⟨hei, Ne.symm hle⟩) fun y h' tk hP ho st' hT hsz hk => ?_
  have hy : y = v := by rw [show vs[i]? = some v by simpa using hv] at hP; cases hP; rfl
  subst hy
  refine ⟨_, rfl, wpAny_letOwnedTupleGo_enum (s := { s with heap := h', toks := tk + 1 }) ho fun h₂ he₂ hs₂ => ?_⟩
  have hlt : e < s.heap.objs.size := Heap.lt_size he
  have hlt' : it < s.heap.objs.size := Heap.lt_size a1
  obtain ⟨⟨o', c1, c2, c3⟩, _⟩ := st'
  have c1' : h₂.get? it = some o' := (hs₂.2 it (Ne.symm hei)).trans c1
  have kb : KB [e, it] s.heap h₂ := by
   refine ⟨fun b o hb eb => ?_, fun b hb => ?_⟩
   ·simp at hb
    exact (hs₂.2 b hb.1).trans (hk b o hb.1 hb.2 eb)
   ·rcases List.mem_cons.mp hb with rfl | hb
    ·exact ⟨_, he₂⟩
    ·rw [List.mem_singleton.mp hb]; exact ⟨_, c1'⟩
  have ht₂ : h₂.get? s.heap.objs.size = some { cls := .type "tuple", data := .seq #[.int i tk, y] } := (hs₂.2 _ (Nat.ne_of_gt hlt)).trans hT
  refine hQ _ h₂ _ (.tup ht₂ rfl rfl (.cons (.int _ _) (.cons (rv.aside sh kb) .nil))) ⟨⟨_, by simpa using he₂⟩, ⟨o', c1', c2, c3⟩, ol, vs, m, ?_, b2, b3, b4.aside sh kb, b5⟩ kb
  exact kb.1 l ol (by simp; exact ⟨hle, hli⟩) b1
 done := fun S s Q E st hh' hni hQ => by
  have hlen : (JO ds).length = ds.length := by unfold JO; simp
  rw [hlen] at st
  obtain ⟨⟨old, he⟩, ⟨o, a1, a2, a3⟩, ol, vs, m, b1, b2, b3, b4, b5⟩ := st
  have hT : s.TypeIs (.ref e) "enumerate" := ⟨_, he, rfl⟩
  unfold pyNext
  refine wpAny_bind (wpAny_attempt (wpAny_callSpecial?_slot (name := Str.ofString "__next__") hT F.slot_enumerate_next
   (wpAny_call_entry F.slot_enumerate_next hT F.entry_enumerate_next ?_ (F.args_enumerate_next_1 _))))
  show wpAny _ _ (field (.ref e) 2 >>= _) _ _ _
  refine wpAny_bind (wpAny_field he rfl (x := .ref it) rfl ?_)
  refine wpAny_bind (Jq (A := A.in1) hh' (fun v q => hni v q it (.tail _ (.head _))) ⟨o, a1, a2, a3⟩ ⟨ol, b1, b2, m, b3⟩ (by have := b4.length; simp at this; simp [this]) fun h' x kb hx' => ?_)
  obtain ⟨ox, ho, hc⟩ := hx'
  refine wpAny_bind (wpAny_isInstance (T := "StopIteration") (b := true) ⟨ox, ho, hc⟩ isSubtype_stop ?_)
  refine wpAny_pure (hQ h' s.toks ⟨fun b o hb eb => kb.1 b o (fun q => hb (.tail _ q)) eb, fun b hb => ?_⟩)
  rcases List.mem_cons.mp hb with rfl | hb
  ·exact ⟨_, kb.1 _ _ (by simpa using hei) he⟩
  ·exact kb.2 b hb
 self := fun i S s Q E st hQ => by
  obtain ⟨⟨old, he⟩, _⟩ := st
  exact wpAny_pyIter_enum he hQ
theorem Dj {e it l : Addr} (hh : A.handled = none) (hei : e ≠ it) (hle : l ≠ e) (hli : l ≠ it) (ds : List D) : ItK G A (.Tuple es n p) e [e, it] (Cv "list" "list_iterator" e it l ds) (JO ds) where
 shape := JB (by decide)
 ext := fun i S h S' h' st x => ⟨let ⟨old, he⟩ := st.1; ⟨old, x.exact he (.inr (.inr ⟨_, rfl⟩)) (.fields rfl)⟩, US.ext (.inl rfl) i S h S' h' st.2 x⟩
 item := fun i S s d Q E E' hd st hQ => by
  obtain ⟨x, hx, rfl⟩ := Vh hd
  have sh := JB (by decide) i S s.heap st
  obtain ⟨⟨old, he⟩, ⟨o, a1, a2, a3⟩, ol, vs, m, b1, b2, b3, b4, b5⟩ := st
  obtain ⟨v, hv, rv⟩ := b4.get hx
  have hi : i < vs.size := by
   have := (List.getElem?_eq_some_iff.mp hv).1
   simpa using this
  refine wpAny_pyNext_enum_itemD (Draws.list (A := A.in1) hh it l hli vs) he ⟨⟨o, a1, a2, a3⟩, ol, b1, b2, m, b3⟩ hi hei (by simp; exact ⟨hei, Ne.symm hle⟩) fun y h' tk hP ho st' hT hsz hk => ?_
  have hy : y = v := by rw [show vs[i]? = some v by simpa using hv] at hP; cases hP; rfl
  subst hy
  refine ⟨_, rfl, wpAny_letOwnedTupleGo_enum (s := { s with heap := h', toks := tk + 1 }) ho fun h₂ he₂ hs₂ => ?_⟩
  have hlt : e < s.heap.objs.size := Heap.lt_size he
  have hlt' : it < s.heap.objs.size := Heap.lt_size a1
  obtain ⟨⟨o', c1, c2, c3⟩, _⟩ := st'
  have c1' : h₂.get? it = some o' := (hs₂.2 it (Ne.symm hei)).trans c1
  have kb : KB [e, it] s.heap h₂ := by
   refine ⟨fun b o hb eb => ?_, fun b hb => ?_⟩
   ·simp at hb
    exact (hs₂.2 b hb.1).trans (hk b o hb.1 hb.2 eb)
   ·rcases List.mem_cons.mp hb with rfl | hb
    ·exact ⟨_, he₂⟩
    ·rw [List.mem_singleton.mp hb]; exact ⟨_, c1'⟩
  have ht₂ : h₂.get? s.heap.objs.size = some { cls := .type "tuple", data := .seq #[.int i tk, y] } := (hs₂.2 _ (Nat.ne_of_gt hlt)).trans hT
  refine hQ _ h₂ _ (.tup ht₂ rfl rfl (.cons (.int _ _) (.cons (rv.aside sh kb) .nil))) ⟨⟨_, by simpa using he₂⟩, ⟨o', c1', c2, c3⟩, ol, vs, m, ?_, b2, b3, b4.aside sh kb, b5⟩ kb
  exact kb.1 l ol (by simp; exact ⟨hle, hli⟩) b1
 done := fun S s Q E st hh' hni hQ => by
  have hlen : (JO ds).length = ds.length := by unfold JO; simp
  rw [hlen] at st
  obtain ⟨⟨old, he⟩, ⟨o, a1, a2, a3⟩, ol, vs, m, b1, b2, b3, b4, b5⟩ := st
  have hT : s.TypeIs (.ref e) "enumerate" := ⟨_, he, rfl⟩
  unfold pyNext
  refine wpAny_bind (wpAny_attempt (wpAny_callSpecial?_slot (name := Str.ofString "__next__") hT F.slot_enumerate_next
   (wpAny_call_entry F.slot_enumerate_next hT F.entry_enumerate_next ?_ (F.args_enumerate_next_1 _))))
  show wpAny _ _ (field (.ref e) 2 >>= _) _ _ _
  refine wpAny_bind (wpAny_field he rfl (x := .ref it) rfl ?_)
  refine wpAny_bind (JT (A := A.in1) hh' (fun v q => hni v q it (.tail _ (.head _))) ⟨o, a1, a2, a3⟩ ⟨ol, b1, b2, m, b3⟩ (by have := b4.length; simp at this; simp [this]) fun h' x kb hx' => ?_)
  obtain ⟨ox, ho, hc⟩ := hx'
  refine wpAny_bind (wpAny_isInstance (T := "StopIteration") (b := true) ⟨ox, ho, hc⟩ isSubtype_stop ?_)
  refine wpAny_pure (hQ h' s.toks ⟨fun b o hb eb => kb.1 b o (fun q => hb (.tail _ q)) eb, fun b hb => ?_⟩)
  rcases List.mem_cons.mp hb with rfl | hb
  ·exact ⟨_, kb.1 _ _ (by simpa using hei) he⟩
  ·exact kb.2 b hb
 self := fun i S s Q E st hQ => by
  obtain ⟨⟨old, he⟩, _⟩ := st
  exact wpAny_pyIter_enum he hQ
end
noncomputable def Vi (f : AEnv → Res T) : AEnv → Res (List D) := fun ρ => (f ρ).bind fun t ρ₁ => match t.val with
 | .list ds => .ok (JO ds) ρ₁
 | .tup ds => .ok (JO ds) ρ₁
 | _ => .stuck
set_option tactic.hygienic true in
theorem Df {G : Gd} {k : Nat} {sc : Scope} {es : List Expr} {n : Nat} {tp p pos : Pos} {e : Expr} {f : AEnv → Res T} (hq : G.quiet = true) (hn : Sim G k sc (.Name "enumerate" p) (Qd (.glob (.type "enumerate")))) (h : Sim G k sc e f) (hu : QU e = true) :
  OH G k sc (.Tuple es n tp) (.Call (.Name "enumerate" p) [e] [] pos) (Vi f) := by
 intro cx ok ρ S s r Q E out
 show wpAny G.M cx.A (do callWith pos (← eval (.Name "enumerate" p) cx.env) [] (backTo pos (starEach [e] cx.env)) []) _ E s
 refine wpAny_bind (hn cx ok ρ S s r _ _ ?_)
 intro v h₀ t₀ S₀ r₀ j₀ x₀ v₀
 have hv : v = .type "enumerate" := by cases j₀; rfl
 subst hv
 refine YW (fun a q => by cases q) (JJ [e] (by simp [hu])) (X5 (by simp [hu]) ?_)
 rw [ZP hu]
 refine wpAny_bind ((h cx ok ρ S₀ { s with heap := h₀, toks := t₀ } r₀).shared _ _ ?_)
 unfold Vi at out
 cases hf : f ρ with
 | stuck => rw [hf] at out; exact out.elim
 | exc C ρ₁ => rw [hf] at out; intro e h₁ t₁ S₁ r₁ f₁ x₁; exact out e h₁ t₁ S₁ r₁ (f₁.back x₀) (x₀.trans x₁)
 | ok t ρ₁ =>
  rw [hf] at out
  simp only [Res.bind] at out ⊢
  intro v h₁ t₁ S₁ r₁ j₁ x₁ v₁
  refine wpAny_bind (wpAny_pure (wpAny_bind (wpAny_holding (wpAny_pure (wpAny_pure ?_)))))
  have xx := x₀.trans x₁
  have nw : ∀ b ∈ [h₁.objs.size + 1, h₁.objs.size], s.heap.get? b = none := fun b hb => by
   refine xx.none (Heap.get?_none_of_le ?_)
   rcases List.mem_cons.mp hb with rfl | hb
   ·exact Nat.le_succ _
   ·rw [List.mem_singleton.mp hb]; exact Nat.le_refl _
  have ne : h₁.objs.size + 1 ≠ h₁.objs.size := Nat.succ_ne_self _
  split at out
  ·rename_i ds e
   rw [e] at j₁
   cases j₁ with
   | list hs e1 e2 e3 q =>
    rename_i a o vs m
    have ha := Heap.lt_size e1
    refine call_enumerate_list (s := { s with heap := h₁, toks := t₁ }) ⟨o, e1, e2.1, m, e3⟩ fun h₂ he hit hz hk => ?_
    obtain ⟨r₂, x₂, v₂⟩ := r₁.keepsE hk
    refine wpAny_pyIter_enum he ?_
    exact out _ [h₁.objs.size + 1, h₁.objs.size] _ S₁ h₂ t₁ r₂ (Dj (ok.hd hq) ne (Nat.ne_of_lt (Nat.lt_succ_of_lt ha)) (Nat.ne_of_lt ha) ds) ⟨⟨_, he⟩, hit, o, vs, m, hk _ _ e1, e2.1, e3, q.ext x₂, fun _ => hs⟩ nw (xx.trans x₂) (((v₀ rfl).trans (v₁ rfl)).trans v₂)
  ·rename_i ds e
   rw [e] at j₁
   cases j₁ with
   | tup e1 e2 e3 q =>
    rename_i a o vs m
    have ha := Heap.lt_size e1
    refine J1 (s := { s with heap := h₁, toks := t₁ }) ⟨o, e1, e2, m, e3⟩ fun h₂ he hit hk => ?_
    obtain ⟨r₂, x₂, v₂⟩ := r₁.keepsE hk
    refine wpAny_pyIter_enum he ?_
    exact out _ [h₁.objs.size + 1, h₁.objs.size] _ S₁ h₂ t₁ r₂ (Dc (ok.hd hq) ne (Nat.ne_of_lt (Nat.lt_succ_of_lt ha)) (Nat.ne_of_lt ha) ds) ⟨⟨_, he⟩, hit, o, vs, m, hk _ _ e1, e2, e3, q.ext x₂, fun q => absurd q (by decide)⟩ nw (xx.trans x₂) (((v₀ rfl).trans (v₁ rfl)).trans v₂)
  ·exact out.elim
end Mine
end

section
set_option Elab.async false
set_option maxRecDepth 100000
namespace Mine
open PySem PyProof.Rows
noncomputable def Jm (h : Heap) (X : List Addr) : Heap := { h with objs := h.objs.mapIdx fun i o => if i ∈ X then { o with data := .freed } else o }
theorem Zd (h : Heap) (X : List Addr) (a : Addr) : (Jm h X).get? a = if a ∈ X then none else h.get? a := by
 unfold Jm Heap.get?
 simp only [Array.getElem?_mapIdx]
 cases h.objs[a]? with
 | none => simp
 | some o =>
  by_cases hx : a ∈ X
  ·simp [hx]
  ·simp [hx]
theorem B9 {h : Heap} {X : List Addr} {a : Addr} {o : Obj} (e : (Jm h X).get? a = some o) : a ∉ X ∧ h.get? a = some o := by
 rw [Zd] at e
 split at e
 ·cases e
 ·exact ⟨by assumption, e⟩
structure After (X : List Addr) (S : Addr → Prop) (h : Heap) (S' : Addr → Prop) (h' : Heap) : Prop where
 keep : ∀ b o, b ∉ X → h.get? b = some o → ∃ sl, h'.get? b = some { o with slots := sl } ∧ (XK o → sl = o.slots)
 dom : ∀ b ∈ X, ∃ o, h'.get? b = some o
 shape : ∀ b ∈ X, ∃ o, h.get? b = some o ∧ X1 o
 sub : ∀ b, S b → S' b
 new : ∀ b, S' b → S b ∨ b ∈ X ∨ h.get? b = none
 sdom : BX S' h'
section
variable {X : List Addr} {S S' S'' : Addr → Prop} {h h' h'' : Heap}
theorem After.exact (k : After X S h S' h') {b : Addr} {o : Obj} (e : h.get? b = some o) (hi : ¬ X1 o) (hn : XK o) : h'.get? b = some o := by
 have hb : b ∉ X := fun m => by obtain ⟨o', e', q⟩ := k.shape b m; rw [e] at e'; cases e'; exact hi q
 obtain ⟨sl, e', q⟩ := k.keep b o hb e
 rw [q hn] at e'; exact e'
theorem After.domAll (k : After X S h S' h') {b : Addr} {o : Obj} (e : h.get? b = some o) : ∃ o', h'.get? b = some o' := by
 by_cases hb : b ∈ X
 ·exact k.dom b hb
 ·obtain ⟨sl, e', _⟩ := k.keep b o hb e; exact ⟨_, e'⟩
theorem ZY {o : Obj} {vs : Array Value} {n : Nat} (hd : o.data = .seq vs n) : ¬ X1 o := fun ⟨_, _, _, _, _, _, q⟩ => by rw [hd] at q; cases q
theorem Yt {o : Obj} {v : Option Value} (hd : o.data = .cell v) : ¬ X1 o := fun ⟨_, _, _, _, _, _, q⟩ => by rw [hd] at q; cases q
theorem XR {o : Obj} {es : Array DictEntry} {n : Nat} (hd : o.data = .dict es n) : ¬ X1 o := fun ⟨_, _, _, _, _, _, q⟩ => by rw [hd] at q; cases q
theorem After.carry (k : After X S h S' h') : Carry S h S' h' where
 tup := fun e hc hd => k.exact e (ZY hd) (.seq hd)
 list := fun hs e hc hd => ⟨k.sub _ hs, k.exact e (ZY hd) (.seq hd)⟩
 range := fun e => k.exact e (fun ⟨_, _, q1, _, _, q4, _⟩ => by cases q1; exact q4 rfl) (.fields rfl)
 exc := fun e hc hn hd r => .exc (k.exact e (fun ⟨_, _, q1, _⟩ => by rw [hc] at q1; cases q1) (.fields hd)) hc hn hd r
 dom := fun a o e' => k.domAll e'
 obj := fun s1 s2 e n => ⟨k.sub _ s1, k.sub _ s2, k.exact e (fun ⟨_, _, q1, _⟩ => by cases q1) (fun es m q => by cases q), by
  obtain ⟨o, es, ep, ho, hd, r⟩ := n
  have hb : _ ∉ X := fun q => by obtain ⟨o', e', q⟩ := k.shape _ q; rw [ho] at e'; cases e'; exact XR hd q
  obtain ⟨sl, e', _⟩ := k.keep _ o hb ho
  exact ⟨_, es, ep, e', hd, r⟩⟩
theorem RV.after (k : After X S h S' h') {v : Value} {d : D} (q : RV S h v d) : RV S' h' v d := q.map k.carry
theorem After.ns (k : After X S h S' h') {a : Addr} {m : Str → Option Value} (n : h.Ns a m) : h'.Ns a m := by
 obtain ⟨o, es, ep, ho, hd, r⟩ := n
 have hb : a ∉ X := fun q => by obtain ⟨o', e', q⟩ := k.shape a q; rw [ho] at e'; cases e'; exact XR hd q
 obtain ⟨sl, e', _⟩ := k.keep a o hb ho
 exact ⟨_, es, ep, e', hd, r⟩
theorem After.cell (k : After X S h S' h') {c : Addr} {v : Option Value} (n : h.IsCell c v) : h'.IsCell c v := by
 obtain ⟨o, ho, hd⟩ := n
 exact ⟨o, k.exact ho (Yt hd) (fun es n q => by rw [hd] at q; cases q), hd⟩
theorem After.ownV (k : After X S h S' h') {a : Addr} {d : D} (q : JZ S h a d) : JZ S' h' a d :=
 q.map k.carry fun o e hd => k.keep a o (fun m => by
  obtain ⟨o', e', q⟩ := k.shape a m
  rw [e] at e'; cases e'
  rcases hd with ⟨_, _, hd⟩ | ⟨_, _, hd⟩
  ·exact ZY hd q
  ·exact XR hd q) e
theorem After.notS (k : After X S h S' h') {a : Addr} {o : Obj} (e : h.get? a = some o) (hi : ¬ X1 o) (hs : ¬ S a) : ¬ S' a := fun q => by
 rcases k.new a q with q | q | q
 ·exact hs q
 ·obtain ⟨o', e', q⟩ := k.shape a q; rw [e] at e'; cases e'; exact hi q
 ·rw [e] at q; cases q
end
section
variable {G : Gd} {cx : Cx} {sc : Scope} {ρ : AEnv} {X : List Addr} {S S' : Addr → Prop} {h h' : Heap}
theorem Rel.after (r : Rel G cx sc ρ S h) (k : After X S h S' h') (hb : G.B.StaysIn h') (new : ∀ b ∈ X, cx.h₀.get? b = none) : Rel G cx sc ρ S' h' ∧ Qv cx.env h h' := by
 have same : Qv cx.env h h' := fun y w q => by
  rcases q with ⟨a, m₁, b, c⟩ | ⟨a, c, b, d⟩
  ·exact .inl ⟨a, m₁, k.ns b, c⟩
  ·exact .inr ⟨a, c, b, k.cell d⟩
 have hf : ∀ y w, Var cx.env h' y w → Var cx.env h y w := fun y w q => by
  rcases q with ⟨a, m₁, b, c⟩ | ⟨a, c, b, d⟩
  ·obtain ⟨m₀, n₀⟩ := r.ns
   exact .inl ⟨a, m₀, n₀, by rw [(k.ns n₀).agree b y]; exact c⟩
  ·obtain ⟨w₀, n₀⟩ := r.cells y c b
   exact .inr ⟨a, c, b, by rw [IsCell.inj d (k.cell n₀)]; exact n₀⟩
 refine ⟨⟨hb, fun b o q => ?_, fun env he => ?_, let ⟨m, n⟩ := r.ns; ⟨m, k.ns n⟩, fun y c q => let ⟨w, n⟩ := r.cells y c q; ⟨w, k.cell n⟩, k.sdom, fun b q => ?_, ?_, fun y c e => ?_, fun y b hdy q => let ⟨o, eo⟩ := r.live y b hdy (hf y _ q); k.domAll eo, r.clean, fun v q => let ⟨C, e⟩ := r.hok v q; ⟨C, e.after k⟩, fun j y u hy hu => ?_, fun j l y z m m' d d' u hy hz hj hl a b => r.inj j l y z m m' d d' u hy hz hj hl (hf y _ a) (hf z _ b), r.dok.back hf⟩, same⟩
 ·obtain ⟨sl, q₁, k₁⟩ := r.keep b o q
  obtain ⟨sl', q₂, k₂⟩ := k.keep b _ (fun m => by rw [new b m] at q; cases q) q₁
  exact ⟨sl', q₂, fun hn => (k₂ hn).trans (k₁ hn)⟩
 ·obtain ⟨p, L, o, b, c, d, es, n, q⟩ := r.ff env he
  have hL : L ∉ X := fun m => by obtain ⟨o', e', q'⟩ := k.shape L m; rw [d] at e'; cases e'; exact XR q q'
  obtain ⟨sl', q₂, k₂⟩ := k.keep L o hL d
  exact ⟨p, L, _, b, c, q₂, es, n, q⟩
 ·rcases k.new b q with q | q | q
  ·exact r.sok b q
  ·exact .inr (new b q)
  ·exact .inr (r.keep.none q)
 ·obtain ⟨m, o, es, ep, e, hd, _⟩ := r.ns
  exact k.notS e (XR hd) r.sloc
 ·obtain ⟨w, o, e', hd⟩ := r.cells y c e
  exact k.notS e' (Yt hd) (r.scell y c e)
 ·obtain ⟨w, hw', tw⟩ := r.vars j y u hy hu
  refine ⟨w, same y w hw', ?_⟩
  cases u with
  | sh d => exact RV.after k tw
  | ow m d =>
   obtain ⟨b, rfl, n1, ow, n2⟩ := tw
   obtain ⟨o, ho, hd⟩ := ow.live
   exact ⟨b, rfl, k.notS ho (hd.elim (fun ⟨_, _, hd⟩ => ZY hd) fun ⟨_, _, hd⟩ => XR hd) n1, k.ownV ow, n2⟩
end
noncomputable def Qu (csc sc : Scope) : Scope := { csc with names := csc.names.map fun (n, k) => if (k == .free && sc.kind == .function && sc.names.lookup n == some .cell) then (n, .cell) else (n, k) }
theorem Ca {csc sc : Scope} {env : Env} (h : env.scope = sc) : relabel csc env = Qu csc sc := by
 unfold relabel Qu Env.kindOf
 rw [h]
noncomputable def Um : List Str → Bool
 | [] => true
 | x :: r => !r.contains x && Um r
theorem Ze : ∀ {l : List Str}, Um l = true → l.Nodup
 | [], _ => .nil
 | x :: r, h => by
  rw [Um, Bool.and_eq_true_iff] at h
  exact List.nodup_cons.mpr ⟨by simpa using h.1, Ze h.2⟩
noncomputable def Jb (sc csc : Scope) : Bool := csc.kind == .function && Um (csc.names.map (·.1)) && csc.names.all fun x => x.2 != .free || ((Qf sc).contains x.1 && (sc.names.lookup x.1 == some .cell || sc.names.lookup x.1 == some .free))
theorem YU {α : Type} : ∀ {l : List (Str × α)} {x : Str} {k : α}, (l.map (·.1)).Nodup → (x, k) ∈ l → l.lookup x = some k
 | (y, j) :: r, x, k, nd, h => by
  have nd' : y ∉ r.map (·.1) ∧ (r.map (·.1)).Nodup := by simpa using nd
  rw [List.lookup_cons]
  rcases List.mem_cons.mp h with e | hr
  ·cases e; simp
  ·have : (x == y) = false := by
    rw [beq_eq_false_iff_ne]
    rintro rfl
    exact nd'.1 (List.mem_map.mpr ⟨(x, k), hr, rfl⟩)
   rw [this]
   exact YU nd'.2 hr
theorem UN {α : Type} (f : Str → α → α) (x : Str) : ∀ (l : List (Str × α)), (l.map fun p => (p.1, f p.1 p.2)).lookup x = (l.lookup x).map (f x)
 | [] => rfl
 | (n, k) :: r => by
  rw [List.map_cons, List.lookup_cons, List.lookup_cons]
  cases hx : x == n with
  | true => rw [beq_iff_eq.mp hx]; rfl
  | false => exact UN f x r
theorem JR {csc sc : Scope} {x : Str} : (Qu csc sc).names.lookup x = (csc.names.lookup x).map fun k => if (k == .free && sc.kind == .function && sc.names.lookup x == some .cell) then .cell else k := by
 have e : (Qu csc sc).names = csc.names.map fun p => (p.1, (fun n k => if (k == NameKind.free && sc.kind == .function && sc.names.lookup n == some .cell) then NameKind.cell else k) p.1 p.2) := by
  unfold Qu
  apply List.map_congr_left
  intro p _
  obtain ⟨n, k⟩ := p
  simp only
  split <;> rfl
 rw [e]
 exact UN (fun n k => if (k == NameKind.free && sc.kind == .function && sc.names.lookup n == some .cell) then NameKind.cell else k) x csc.names
theorem Ui {sc : Scope} (h : (sc.names.map (·.1)).Nodup) : (Qf sc).Nodup := by
 unfold Qf
 exact h.sublist (List.Sublist.map _ List.filter_sublist)
theorem WG (csc sc : Scope) : (Qu csc sc).names.map (·.1) = csc.names.map (·.1) := by
 unfold Qu
 simp only [List.map_map]
 apply List.map_congr_left
 intro x _
 simp only [Function.comp]
 split <;> rfl
noncomputable def YK (env : Env) : List (Str × NameKind) → List (Str × Addr) → List (Str × Addr)
 | [], acc => acc
 | (n, k) :: r, acc => if k == .free then (match env.cells.lookup n with | some c => YK env r ((n, c) :: acc) | none => YK env r acc) else YK env r acc
theorem ON {csc : Scope} {env : Env} (h : ∀ x ∈ csc.names, x.2 = .free → ∃ c, env.cells.lookup x.1 = some c) : closureFor csc env = pure (YK env csc.names []) := by
 have key : ∀ (l : List (Str × NameKind)) (acc : List (Str × Addr)), (∀ x ∈ l, x.2 = .free → ∃ c, env.cells.lookup x.1 = some c) →
   (forIn l acc fun x r => match x with | (name, kind) => if kind == .free then (do let a ← cellOf env name; pure (ForInStep.yield ((name, a) :: r))) else pure (ForInStep.yield r) : Sem (List (Str × Addr))) = pure (YK env l acc) := by
  intro l
  induction l with
  | nil => intro acc _; rfl
  | cons x r ih =>
   intro acc hl
   obtain ⟨n, k⟩ := x
   rw [List.forIn_cons, YK]
   by_cases hk : k == .free
   ·obtain ⟨c, hc⟩ := hl (n, k) (.head _) (beq_iff_eq.mp hk)
    simp only [hk, if_true]
    have : cellOf env n = pure c := by unfold cellOf; simp only at hc; rw [hc]
    rw [this]
    simp only [hc]
    rw [pure_bind, pure_bind]
    exact ih _ fun y hy => hl y (.tail _ hy)
   ·simp only [hk, Bool.false_eq_true, if_false]
    rw [pure_bind]
    exact ih _ fun y hy => hl y (.tail _ hy)
 unfold closureFor
 have := key csc.names [] h
 simp only [bind_pure] 
 exact this
set_option tactic.hygienic true in
theorem X3 {env : Env} : ∀ {l : List (Str × NameKind)} {acc : List (Str × Addr)} {x : Str} {c : Addr}, (YK env l acc).lookup x = some c → env.cells.lookup x = some c ∨ acc.lookup x = some c
 | [], _, _, _, h => .inr h
 | (n, k) :: r, acc, x, c, h => by
  rw [YK] at h
  split at h
  ·split at h
   ·rename_i c' hc
    rcases X3 h with q | q
    ·exact .inl q
    ·rw [List.lookup_cons] at q
     cases hx : x == n with
     | true => rw [hx] at q; cases q; rw [beq_iff_eq.mp hx]; exact .inl hc
     | false => rw [hx] at q; exact .inr q
   ·exact X3 h
  ·exact X3 h
set_option tactic.hygienic true in
theorem Y4 {env : Env} : ∀ {l : List (Str × NameKind)} {acc : List (Str × Addr)} {x : Str} {c : Addr}, (YK env l acc).lookup x = some c → (x, .free) ∈ l ∨ ∃ c', acc.lookup x = some c'
 | [], _, _, _, h => .inr ⟨_, h⟩
 | (n, k) :: r, acc, x, c, h => by
  rw [YK] at h
  split at h
  ·rename_i hk
   split at h
   ·rcases Y4 h with q | ⟨c', q⟩
    ·exact .inl (.tail _ q)
    ·rw [List.lookup_cons] at q
     cases hx : x == n with
     | true => rw [beq_iff_eq.mp hx, ← beq_iff_eq.mp hk]; exact .inl (.head _)
     | false => rw [hx] at q; exact .inr ⟨_, q⟩
   ·rcases Y4 h with q | q
    ·exact .inl (.tail _ q)
    ·exact .inr q
  ·rcases Y4 h with q | q
   ·exact .inl (.tail _ q)
   ·exact .inr q
set_option tactic.hygienic true in
theorem YE {env : Env} {x : Str} {c : Addr} (hc : env.cells.lookup x = some c) : ∀ {l : List (Str × NameKind)} {acc : List (Str × Addr)}, ((x, .free) ∈ l ∨ acc.lookup x = some c) → (YK env l acc).lookup x = some c
 | [], _, h => h.elim (fun q => by cases q) id
 | (n, k) :: r, acc, h => by
  rw [YK]
  by_cases hx : x = n
  ·subst hx
   split
   ·rw [hc]
    exact YE hc (.inr (by simp))
   ·rename_i hk
    refine YE hc ?_
    rcases h with h | h
    ·rcases List.mem_cons.mp h with e | h
     ·cases e; exact absurd rfl hk
     ·exact .inl h
    ·exact .inr h
  ·have h' : (x, NameKind.free) ∈ r ∨ acc.lookup x = some c := h.imp (fun h => by
    rcases List.mem_cons.mp h with e | h
    ·cases e; exact absurd rfl hx
    ·exact h) id
   have hb : (x == n) = false := by simpa using hx
   split
   ·split
    ·exact YE hc (h'.imp id fun q => by rw [List.lookup_cons, hb]; exact q)
    ·exact YE hc h'
   ·exact YE hc h'
set_option tactic.hygienic true in
theorem Yh : ∀ {l : List (Str × NameKind)} {n : Nat} {acc : List (Str × Addr)} {x : Str} {c : Addr}, (cellsFrom n l acc).lookup x = some c → (n ≤ c ∧ (x, .cell) ∈ l) ∨ acc.lookup x = some c
 | [], _, _, _, _, h => .inr h
 | (y, k) :: r, n, acc, x, c, h => by
  unfold cellsFrom at h
  split at h
  ·rename_i hk
   rcases Yh h with ⟨q, m⟩ | q
   ·exact .inl ⟨Nat.le_of_succ_le q, .tail _ m⟩
   ·rw [List.lookup_cons] at q
    cases hx : x == y with
    | true => rw [hx] at q; cases q; rw [beq_iff_eq.mp hx, ← beq_iff_eq.mp hk]; exact .inl ⟨Nat.le_refl _, .head _⟩
    | false => rw [hx] at q; exact .inr q
  ·rcases Yh h with ⟨q, m⟩ | q
   ·exact .inl ⟨q, .tail _ m⟩
   ·exact .inr q
set_option tactic.hygienic true in
theorem Y8 : ∀ {l : List (Str × NameKind)} {n : Nat} {acc : List (Str × Addr)} {x : Str}, (∀ k, (x, k) ∈ l → k ≠ .cell) → (cellsFrom n l acc).lookup x = acc.lookup x
 | [], _, _, _, _ => rfl
 | (y, k) :: r, n, acc, x, h => by
  unfold cellsFrom
  split
  ·rename_i hk
   rw [Y8 fun k' m => h k' (.tail _ m), List.lookup_cons]
   have : (x == y) = false := by
    rw [beq_eq_false_iff_ne]
    rintro rfl
    exact h k (.head _) (beq_iff_eq.mp hk)
   rw [this]
  ·exact Y8 fun k' m => h k' (.tail _ m)
theorem UJ {M : Model} {A : Around} {E : Value → Shared → Prop} {s : Shared} {csc : Scope} {gl : Addr} {cl : List (Str × Addr)} {q : Str} {env : Env} {Q : Env → Shared → Prop}
  (h : Q { scope := csc, locals := s.heap.objs.size, globals := gl, cells := cellsFrom (s.heap.objs.size + 1) csc.names cl, qual := q, func := none, code := env.code, frame := env.frame, builtins := env.builtins } { s with heap := pushCells (s.heap.push { cls := .type "dict", data := .dict #[] }) csc.names }) :
  wpAny M A (newFunctionEnv csc gl cl [] q none .none (some env)) Q E s := by
 simp only [newFunctionEnv, Option.isSome_some, if_true]
 refine wpAny_bind (wpAny_alloc ?_)
 refine wpAny_bind (wpAny_layCells _ (fun name kind cells => by cases hkc : kind == NameKind.cell <;> simp [hkc]) _ _ _ _ ?_)
 rw [show ({ s with heap := s.heap.push { cls := .type "dict", data := .dict #[] } } : Shared).heap.objs.size = s.heap.objs.size + 1 from Heap.size_push ..]
 rw [List.forIn_nil]
 exact wpAny_bind (wpAny_pure (wpAny_pure h))
end Mine
end

section
set_option Elab.async false
set_option maxRecDepth 100000
namespace Mine
open PySem PyProof.Rows
noncomputable def T.weak : T → T
 | .sh d => .sh d
 | .ow _ d => .ow false d
noncomputable def Uk (sc csc : Scope) (ρ : AEnv) (x : Str) : Option (Option T) :=
 if csc.names.lookup x == some .free then (match (Qf sc).findIdx? (· == x) with
  | some i => (match ρ[i]? with | some (some t) => some (some t.weak) | _ => none)
  | none => none) else some none
noncomputable def Km (sc csc : Scope) (ρ : AEnv) : List Str → Option AEnv
 | [] => some []
 | x :: r => match Uk sc csc ρ x, Km sc csc ρ r with
  | some t, some ts => some (t :: ts)
  | _, _ => none
set_option tactic.hygienic true in
theorem Bw {sc csc : Scope} {ρ : AEnv} : ∀ {l : List Str} {ρ₀ : AEnv}, Km sc csc ρ l = some ρ₀ → ∀ {j : Nat} {x : Str} {u : Option T}, l[j]? = some x → ρ₀[j]? = some u → Uk sc csc ρ x = some u
 | [], _, _, _, _, _, h, _ => by simp at h
 | y :: r, ρ₀, e, j, x, u, hx, hu => by
  rw [Km] at e
  split at e
  ·rename_i t ts h1 h2
   cases e
   cases j with
   | zero => simp at hx hu; subst hx; subst hu; exact h1
   | succ j => exact Bw h2 (by simpa using hx) (by simpa using hu)
  ·cases e
set_option tactic.hygienic true in
theorem Bi {sc csc : Scope} {ρ : AEnv} : ∀ {l : List Str} {ρ₀ : AEnv}, Km sc csc ρ l = some ρ₀ → ∀ {x : Str}, x ∈ l → ∃ u, Uk sc csc ρ x = some u
 | [], _, _, _, h => by cases h
 | y :: r, ρ₀, e, x, hx => by
  rw [Km] at e
  split at e
  ·rename_i t ts h1 h2
   rcases List.mem_cons.mp hx with rfl | hx
   ·exact ⟨_, h1⟩
   ·exact Bi h2 hx
  ·cases e
set_option tactic.hygienic true in
theorem Kb {sc csc : Scope} {ρ : AEnv} {x : Str} {t : T} (h : Uk sc csc ρ x = some (some t)) : csc.names.lookup x = some .free ∧ ∃ (i : Nat) (t₀ : T), (Qf sc)[i]? = some x ∧ ρ[i]? = some (some t₀) ∧ t = t₀.weak := by
 unfold Uk at h
 split at h
 ·rename_i hf
  refine ⟨beq_iff_eq.mp hf, ?_⟩
  split at h
  ·rename_i i hi
   split at h
   ·rename_i t₀ ht
    cases h
    obtain ⟨h1, h2, _⟩ := List.findIdx?_eq_some_iff_getElem.mp hi
    exact ⟨i, t₀, by rw [List.getElem?_eq_getElem h1]; exact congrArg some (beq_iff_eq.mp h2), ht, rfl⟩
   ·cases h
  ·cases h
 ·cases h
theorem Bc {sc csc : Scope} {ρ : AEnv} {x : Str} {u : Option T} (h : Uk sc csc ρ x = some u) (hf : csc.names.lookup x = some .free) : ∃ t, u = some t := by
 unfold Uk at h
 rw [if_pos (by rw [hf]; rfl)] at h
 split at h
 ·split at h
  ·cases h; exact ⟨_, rfl⟩
  ·cases h
 ·cases h
noncomputable def XS (csc : Scope) (env : Env) (C : Addr) : List (Str × Addr) := cellsFrom (C + 1) csc.names (YK env csc.names [])
noncomputable def YN (csc sc : Scope) (env : Env) (C : Addr) : Env := { scope := Qu csc sc, locals := C, globals := env.globals, cells := XS csc env C, qual := env.qual, func := none, code := env.code, frame := env.frame, builtins := env.builtins }
noncomputable def WX (csc : Scope) (env : Env) (C : Addr) : List Addr := ((XS csc env C).filter fun p => decide (C < p.2)).map (·.2)
noncomputable def OE (cx : Cx) (csc sc : Scope) (C : Addr) (wr : List Addr) (S : Addr → Prop) (h : Heap) : Cx := { A := cx.A, env := YN csc sc cx.env C, fs := cx.fs, h₀ := Jm h (wr ++ C :: WX csc cx.env C), P := S }
structure CI (G : Gd) (cx : Cx) (sc csc : Scope) (S₁ : Addr → Prop) (h₁ : Heap) (wr : List Addr) (C : Addr) (S : Addr → Prop) (h : Heap) : Prop where
 aft : After wr S₁ h₁ S h
 base : G.B.StaysIn h
 ns : ∃ m, h.Ns C m
 cells : ∀ x c, (XS csc cx.env C).lookup x = some c → ∃ v, h.IsCell c v
 sloc : ¬ S C
 scell : ∀ x c, (XS csc cx.env C).lookup x = some c → ¬ S c
 live : ∀ x a, Xb x = false → Var (YN csc sc cx.env C) h x (.ref a) → ∃ o, h.get? a = some o
theorem OZ {lo : Nat} {l : List (Str × NameKind)} : ∀ {n : Nat} {acc : List (Str × Addr)}, (∀ x c, acc.lookup x = some c → c < n) → (∀ x y c, lo ≤ c → acc.lookup x = some c → acc.lookup y = some c → x = y) → ∀ x y c, lo ≤ c → (cellsFrom n l acc).lookup x = some c → (cellsFrom n l acc).lookup y = some c → x = y := by
 induction l with
 | nil => intro n acc _ h; exact h
 | cons zk r ih =>
  intro n acc hb h
  obtain ⟨z, k⟩ := zk
  unfold cellsFrom
  split
  ·refine ih (fun x c q => ?_) fun x y c hc qx qy => ?_
   ·rw [List.lookup_cons] at q
    cases hx : x == z with
    | true => rw [hx] at q; cases q; exact Nat.lt_succ_self _
    | false => rw [hx] at q; exact Nat.lt_succ_of_lt (hb x c q)
   ·rw [List.lookup_cons] at qx qy
    cases hx : x == z <;> cases hy : y == z <;> rw [hx] at qx <;> rw [hy] at qy
    ·exact h x y c hc qx qy
    ·cases qy; exact absurd (hb x _ qx) (Nat.lt_irrefl _)
    ·cases qx; exact absurd (hb y _ qy) (Nat.lt_irrefl _)
    ·rw [beq_iff_eq.mp hx, beq_iff_eq.mp hy]
  ·exact ih hb h
section
variable {G : Gd} {cx : Cx} {sc csc : Scope} {ρ₁ ρ₀ : AEnv} {S₁ S S' : Addr → Prop} {h₁ h h' : Heap} {wr : List Addr} {C : Addr} {k : Nat}
structure CG (G : Gd) (cx : Cx) (sc csc : Scope) (ρ₁ : AEnv) (S₁ : Addr → Prop) (h₁ : Heap) (wr : List Addr) (C : Addr) (ρ₀ : AEnv) : Prop where
 hsc : cx.env.scope = sc
 r : Rel G cx sc ρ₁ S₁ h₁
 new : ∀ b ∈ wr, cx.h₀.get? b = none ∧ G.B.get? b = none
 hC : h₁.objs.size ≤ C
 ok : Jb sc csc = true
 cap : Km sc csc ρ₁ (Qf (Qu csc sc)) = some ρ₀
theorem CG.nodup (g : CG G cx sc csc ρ₁ S₁ h₁ wr C ρ₀) : (csc.names.map (·.1)).Nodup := by
 have := g.ok
 unfold Jb at this
 simp only [Bool.and_eq_true] at this
 exact Ze this.1.2
theorem CG.kind (g : CG G cx sc csc ρ₁ S₁ h₁ wr C ρ₀) : csc.kind = .function := by
 have := g.ok
 unfold Jb at this
 simp only [Bool.and_eq_true, beq_iff_eq] at this
 exact this.1.1
theorem CG.free (g : CG G cx sc csc ρ₁ S₁ h₁ wr C ρ₀) {x : Str} (h : (x, .free) ∈ csc.names) : x ∈ Qf sc ∧ (sc.names.lookup x = some .cell ∨ sc.names.lookup x = some .free) := by
 have := g.ok
 unfold Jb at this
 simp only [Bool.and_eq_true] at this
 have := List.all_eq_true.mp this.2 _ h
 simpa using this
theorem Z5 {α : Type} {l : List (Str × α)} {n : Str} {c : α} (h : l.lookup n = some c) : (n, c) ∈ l := mem_of_lookup h
theorem CG.taken (g : CG G cx sc csc ρ₁ S₁ h₁ wr C ρ₀) {x : Str} (hf : csc.names.lookup x = some .free) : ∃ (c : Addr) (v : Value) (i : Nat) (t : T), cx.env.cells.lookup x = some c ∧ (XS csc cx.env C).lookup x = some c ∧ h₁.IsCell c (some v) ∧ (Qf sc)[i]? = some x ∧ ρ₁[i]? = some (some t) ∧ Dp cx.h₀ S₁ h₁ v t ∧ (cx.env.kindOf x = some .cell ∨ cx.env.kindOf x = some .free) := by
 have hm := Z5 hf
 obtain ⟨hv, hk⟩ := g.free hm
 have hx' : x ∈ Qf (Qu csc sc) := by
  have : (x, if (NameKind.free == .free && sc.kind == .function && sc.names.lookup x == some .cell) then NameKind.cell else .free) ∈ (Qu csc sc).names := by
   unfold Qu
   refine List.mem_map.mpr ⟨(x, .free), hm, ?_⟩
   simp only
   split <;> rfl
  unfold Qf
  refine List.mem_map.mpr ⟨_, List.mem_filter.mpr ⟨this, ?_⟩, rfl⟩
  simp only
  split <;> rfl
 obtain ⟨u, hu⟩ := Bi g.cap hx'
 obtain ⟨t, rfl⟩ := Bc hu hf
 obtain ⟨_, i, t₀, hi, ht, rfl⟩ := Kb hu
 obtain ⟨v, hvar, tv⟩ := g.r.vars i x t₀ hi ht
 have hkk : cx.env.kindOf x = sc.names.lookup x := by unfold Env.kindOf; rw [g.hsc]
 rcases hvar with ⟨a, _⟩ | ⟨a, c, b, d⟩
 ·rw [hkk] at a
  rcases hk with q | q <;> (rw [q] at a; cases a)
 ·refine ⟨c, v, i, t₀, b, ?_, d, hi, ht, tv, a⟩
  unfold XS
  rw [Y8 (fun kk m q => by
   subst q
   have := YU g.nodup m
   rw [hf] at this; cases this)]
  exact YE b (.inl hm)
theorem CG.cellOf (g : CG G cx sc csc ρ₁ S₁ h₁ wr C ρ₀) {x : Str} {c : Addr} (hc : (XS csc cx.env C).lookup x = some c) : (C < c ∧ (x, .cell) ∈ csc.names) ∨ (csc.names.lookup x = some .free ∧ cx.env.cells.lookup x = some c ∧ c < h₁.objs.size) := by
 unfold XS at hc
 rcases Yh hc with ⟨q, m⟩ | q
 ·exact .inl ⟨q, m⟩
 ·right
  have hl : cx.env.cells.lookup x = some c := by
   rcases X3 q with q | q
   ·exact q
   ·cases q
  have hm : (x, .free) ∈ csc.names := by
   rcases Y4 q with q | ⟨_, q⟩
   ·exact q
   ·cases q
  refine ⟨YU g.nodup hm, hl, ?_⟩
  obtain ⟨v, o, e, _⟩ := g.r.cells x c hl
  exact Heap.lt_size e
theorem CG.notX (g : CG G cx sc csc ρ₁ S₁ h₁ wr C ρ₀) {b : Addr} {o : Obj} (e : h₁.get? b = some o) (hb : b ∉ wr) : b ∉ wr ++ C :: WX csc cx.env C := by
 have hlt := Heap.lt_size e
 have hC := g.hC
 intro m
 rcases List.mem_append.mp m with m | m
 ·exact hb m
 ·rcases List.mem_cons.mp m with rfl | m
  ·exact absurd hlt (Nat.not_lt.mpr hC)
  ·unfold WX at m
   obtain ⟨p, hp, rfl⟩ := List.mem_map.mp m
   have := (List.mem_filter.mp hp).2
   simp only [decide_eq_true_eq] at this
   exact absurd (Nat.lt_of_lt_of_le hlt hC) (Nat.not_lt.mpr (Nat.le_of_lt this))
theorem CG.xNew (g : CG G cx sc csc ρ₁ S₁ h₁ wr C ρ₀) {b : Addr} (hb : b ∈ C :: WX csc cx.env C) : h₁.get? b = none := by
 have hC := g.hC
 refine Heap.get?_none_of_le ?_
 rcases List.mem_cons.mp hb with rfl | m
 ·exact hC
 ·unfold WX at m
  obtain ⟨p, hp, rfl⟩ := List.mem_map.mp m
  have := (List.mem_filter.mp hp).2
  simp only [decide_eq_true_eq] at this
  exact Nat.le_trans hC (Nat.le_of_lt this)
theorem CI.rel (g : CG G cx sc csc ρ₁ S₁ h₁ wr C ρ₀) (ci : CI G cx sc csc S₁ h₁ wr C S h) : Rel G (OE cx csc sc C wr S h) (Qu csc sc) ρ₀ S h := by
 obtain ⟨ro, same⟩ := g.r.after ci.aft ci.base fun b hb => (g.new b hb).1
 have nd' : (Qf (Qu csc sc)).Nodup := Ui (by rw [WG]; exact g.nodup)
 have kd : ∀ x, csc.names.lookup x = some .free → (YN csc sc cx.env C).kindOf x = some .cell ∨ (YN csc sc cx.env C).kindOf x = some .free := fun x hf => by
  show (Qu csc sc).names.lookup x = _ ∨ (Qu csc sc).names.lookup x = _
  rw [JR, hf, Option.map_some]
  split
  ·exact .inl rfl
  ·exact .inr rfl
 have got : ∀ (j : Nat) (x : Str) (t : T), (Qf (Qu csc sc))[j]? = some x → ρ₀[j]? = some (some t) → csc.names.lookup x = some .free ∧ ∃ (i : Nat) (t₀ : T) (v : Value), (Qf sc)[i]? = some x ∧ ρ₁[i]? = some (some t₀) ∧ t = t₀.weak ∧ Var cx.env h x v ∧ Var (YN csc sc cx.env C) h x v ∧ Dp cx.h₀ S h v t₀ := fun j x t hx ht => by
  have hu := Bw g.cap hx ht
  obtain ⟨hf, i, t₀, hi, ht₀, rfl⟩ := Kb hu
  obtain ⟨c, v', i', t', hc, hcc, hcell, hi', ht', tv', hkk⟩ := g.taken hf
  obtain ⟨v, hv, tv⟩ := ro.vars i x t₀ hi ht₀
  have : Var cx.env h x v' := .inr ⟨hkk, c, hc, ci.aft.cell hcell⟩
  cases Var.inj hv this
  exact ⟨hf, i, t₀, _, hi, ht₀, rfl, hv, .inr ⟨kd x hf, c, hcc, ci.aft.cell hcell⟩, tv⟩
 refine { base := ci.base, keep := fun b o e => ⟨o.slots, (B9 e).2, fun _ => rfl⟩, ff := ro.ff, ns := ci.ns, cells := ci.cells, sdom := ci.aft.sdom, sok := fun b q => .inl q, sloc := ci.sloc, scell := ci.scell, live := ci.live, clean := fun j x m d hx hj => ?_, hok := ro.hok, vars := fun j x t hx ht => ?_, inj := fun j l x y m m' d d' v hx hy hj hl a b => ?_, dok := fun j x m ks ds hx hj hvx => ?_ }
 rotate_right
 ·obtain ⟨hf, _⟩ := got j x _ hx hj
  obtain ⟨c, v', i', t', hc, hcc, hcell, hi', ht', tv', hkk⟩ := g.taken hf
  cases Var.inj hvx (.inr ⟨kd x hf, c, hcc, ci.aft.cell hcell⟩)
  have : ∃ o, h₁.get? C = some o := by
   cases t' with
   | sh d => exact RV.live tv' _ rfl
   | ow m d => obtain ⟨a, e, _, ow, _⟩ := tv'; cases e; obtain ⟨o, ho, _⟩ := ow.live; exact ⟨o, ho⟩
  obtain ⟨o, ho⟩ := this
  exact absurd (Heap.lt_size ho) (Nat.not_lt.mpr g.hC)
 ·obtain ⟨_, i, t₀, v, hi, ht₀, e, _⟩ := got j x _ hx hj
  cases t₀ with
  | sh d => cases e
  | ow m₀ d₀ => exact g.r.clean i x m₀ d₀ hi ht₀
 ·obtain ⟨_, i, t₀, v, hi, ht₀, rfl, _, hv, tv⟩ := got j x t hx ht
  refine ⟨v, hv, ?_⟩
  cases t₀ with
  | sh d => exact tv
  | ow m d => obtain ⟨a, rfl, n1, ow, _⟩ := tv; exact ⟨a, rfl, n1, ow, fun q => by cases q⟩
 ·obtain ⟨_, i, t₀, v₁, hi, ht₀, e₁, hv₁, hw₁, _⟩ := got j x _ hx hj
  obtain ⟨_, i', t₀', v₂, hi', ht₀', e₂, hv₂, hw₂, _⟩ := got l y _ hy hl
  cases Var.inj a hw₁
  cases Var.inj b hw₂
  have : i = i' := by
   cases t₀ with
   | sh d => cases e₁
   | ow m₀ d₀ =>
    cases t₀' with
    | sh d => cases e₂
    | ow m₁ d₁ => exact ro.inj i i' x y m₀ m₁ d₀ d₁ _ hi hi' ht₀ ht₀' hv₁ hv₂
  subst this
  rw [hi] at hi'
  cases hi'
  obtain ⟨p1, e1⟩ := List.getElem?_eq_some_iff.mp hx
  obtain ⟨p2, e2⟩ := List.getElem?_eq_some_iff.mp hy
  exact (List.getElem_inj nd').mp (e1.trans e2.symm)
theorem CI.ok (g : CG G cx sc csc ρ₁ S₁ h₁ wr C ρ₀) (ok : CxOk G cx sc k) : CxOk G (OE cx csc sc C wr S h) (Qu csc sc) k := by
 obtain ⟨env, outer, e1, e2⟩ := ok.top
 exact { hsc := rfl, hk := g.kind, hg := ok.hg, hb := ok.hb, fr := ok.fr, top := ⟨env, outer, e1, e2⟩, hd := ok.hd, room := ok.room, nodup := Ui (by rw [WG]; exact g.nodup) }
theorem CI.fn (g : CG G cx sc csc ρ₁ S₁ h₁ wr C ρ₀) (ci : CI G cx sc csc S₁ h₁ wr C S h) : FnCx G (OE cx csc sc C wr S h) where
 bh := fun b o e => by
  show (Jm h _).get? b = some o
  rw [Zd, if_neg (g.notX (g.r.base b o e) fun m => by rw [(g.new b m).2] at e; cases e)]
  exact ci.base b o e
 lnew := by
  show (Jm h _).get? C = none
  rw [Zd, if_pos (List.mem_append.mpr (.inr (.head _)))]
 cap := fun x y c hx hy hn => by
  have own : C < c := by
   rcases g.cellOf hx with ⟨q, _⟩ | ⟨hf, hl, hlt⟩
   ·exact q
   ·exfalso
    obtain ⟨v, hcell⟩ := g.r.cells x c hl
    have hcell0 := hcell
    obtain ⟨o, e, hd⟩ := hcell0
    have : (Jm h (wr ++ C :: WX csc cx.env C)).get? c = none := hn
    rw [Zd, if_neg (g.notX e fun m => by obtain ⟨o', e', q⟩ := ci.aft.shape c m; rw [e] at e'; cases e'; exact Yt hd q)] at this
    obtain ⟨o', e', _⟩ := ci.aft.cell hcell
    rw [this] at e'; cases e'
  refine OZ (lo := C + 1) (fun z c' q => ?_) (fun z z' c' hc' q q' => ?_) x y c own hx hy
  ·rcases X3 q with q | q
   ·obtain ⟨v, o, e, _⟩ := g.r.cells z c' q
    exact Nat.lt_succ_of_lt (Nat.lt_of_lt_of_le (Heap.lt_size e) g.hC)
   ·cases q
  ·exfalso
   rcases X3 q with q | q
   ·obtain ⟨v, o, e, _⟩ := g.r.cells z c' q
    exact absurd (Nat.lt_of_lt_of_le (Heap.lt_size e) g.hC) (Nat.not_lt.mpr (Nat.le_of_succ_le hc'))
   ·cases q
 loc := fun x c q => by
  show c ≠ C
  rcases g.cellOf q with ⟨q, _⟩ | ⟨_, _, q⟩
  ·exact Nat.ne_of_gt q
  ·exact Nat.ne_of_lt (Nat.lt_of_lt_of_le q g.hC)
theorem CI.own (g : CG G cx sc csc ρ₁ S₁ h₁ wr C ρ₀) {x : Str} (hx : csc.names.lookup x = some .local ∨ csc.names.lookup x = some .cell) : Jx (OE cx csc sc C wr S h) (Qu csc sc) x := by
 unfold Jx
 rw [JR]
 rcases hx with q | q
 ·rw [q]; exact .inl rfl
 ·rw [q]
  refine .inr ⟨rfl, ?_⟩
  obtain ⟨c, hc⟩ := Option.isSome_iff_exists.mp (Ye csc.names (C + 1) (YK cx.env csc.names []) (.inl q))
  refine ⟨c, hc, ?_⟩
  show (Jm h _).get? c = none
  rw [Zd, if_pos]
  rcases g.cellOf (x := x) hc with ⟨hlt, _⟩ | ⟨hf, _⟩
  ·refine List.mem_append.mpr (.inr (.tail _ ?_))
   unfold WX
   exact List.mem_map.mpr ⟨(x, c), List.mem_filter.mpr ⟨Z5 hc, by simpa using hlt⟩, rfl⟩
  ·rw [q] at hf; cases hf
set_option tactic.hygienic true in
theorem CI.of_rel {ρ' : AEnv} (g : CG G cx sc csc ρ₁ S₁ h₁ wr C ρ₀) (ci : CI G cx sc csc S₁ h₁ wr C S h) (r : Rel G (OE cx csc sc C wr S h) (Qu csc sc) ρ' S' h') (sub : ∀ b, S b → S' b) (dom : ∀ b ∈ wr, ∃ o, h'.get? b = some o) : CI G cx sc csc S₁ h₁ wr C S' h' where
 aft := {
  keep := fun b o hb e => by
   obtain ⟨sl, e₁, k₁⟩ := ci.aft.keep b o hb e
   have : (Jm h (wr ++ C :: WX csc cx.env C)).get? b = some { o with slots := sl } := by rw [Zd, if_neg (g.notX e hb)]; exact e₁
   obtain ⟨sl', e₂, k₂⟩ := r.keep b _ this
   exact ⟨sl', e₂, fun hn => (k₂ hn).trans (k₁ hn)⟩
  dom := dom
  shape := ci.aft.shape
  sub := fun b q => sub b (ci.aft.sub b q)
  new := fun b q => by
   rcases r.sok b q with q | q
   ·exact ci.aft.new b q
   ·have q : (Jm h (wr ++ C :: WX csc cx.env C)).get? b = none := q
    rw [Zd] at q
    split at q
    ·rename_i m
     rcases List.mem_append.mp m with m | m
     ·exact .inr (.inl m)
     ·exact .inr (.inr (g.xNew m))
    ·right; right
     cases q' : h₁.get? b with
     | none => rfl
     | some o => obtain ⟨o', e'⟩ := ci.aft.domAll q'; rw [q] at e'; cases e'
  sdom := r.sdom }
 base := r.base
 ns := r.ns
 cells := r.cells
 sloc := r.sloc
 scell := r.scell
 live := r.live
theorem CI.append {D : Addr} {oD oD' : Obj} {vs : Array Value} {n : Nat} (g : CG G cx sc csc ρ₁ S₁ h₁ wr C ρ₀) (ci : CI G cx sc csc S₁ h₁ wr C S h) (eD : h.get? D = some oD) (hd : oD.data = .seq vs n) (hD : h₁.get? D = none) (kk : Heap.SameBut D h h') (e' : h'.get? D = some oD') : CI G cx sc csc S₁ h₁ wr C S h' := by
 have dom : ∀ b o, h.get? b = some o → ∃ o', h'.get? b = some o' := fun b o e => by
  by_cases hb : b = D
  ·subst hb; exact ⟨_, e'⟩
  ·exact ⟨o, (kk.2 b hb).trans e⟩
 have hC : C ≠ D := by
  rintro rfl
  obtain ⟨m, o, es, ep, q, hd', _⟩ := ci.ns
  rw [eD] at q; cases q; rw [hd] at hd'; cases hd'
 have hcell : ∀ x c, (XS csc cx.env C).lookup x = some c → c ≠ D := fun x c q => by
  rintro rfl
  obtain ⟨v, o, q, hd'⟩ := ci.cells x _ q
  rw [eD] at q; cases q; rw [hd] at hd'; cases hd'
 refine { aft := { ci.aft with keep := fun b o hb e => ?_, dom := fun b hb => ?_, sdom := fun b q => ?_ }, base := fun b o q => (kk.2 b ?_).trans (ci.base b o q), ns := ?_, cells := fun x c q => ?_, sloc := ci.sloc, scell := ci.scell, live := fun x a hdx q => ?_ }
 ·obtain ⟨sl, q, k₁⟩ := ci.aft.keep b o hb e
  exact ⟨sl, (kk.2 b (by rintro rfl; rw [hD] at e; cases e)).trans q, k₁⟩
 ·obtain ⟨o, q⟩ := ci.aft.dom b hb
  exact dom b o q
 ·obtain ⟨o, q⟩ := ci.aft.sdom b q
  exact dom b o q
 ·rintro rfl
  rw [g.r.base _ _ q] at hD; cases hD
 ·obtain ⟨m, n⟩ := ci.ns
  exact ⟨m, n.sameBut kk hC⟩
 ·obtain ⟨v, n⟩ := ci.cells x c q
  exact ⟨v, n.sameBut kk (hcell x c q)⟩
 ·have : Var (YN csc sc cx.env C) h x (.ref a) := by
   rcases q with ⟨a1, m₁, b, c⟩ | ⟨a1, c, b, d⟩
   ·obtain ⟨m₀, n₀⟩ := ci.ns
    exact .inl ⟨a1, m₀, n₀, by rw [(n₀.sameBut kk hC).agree b x]; exact c⟩
   ·obtain ⟨w₀, n₀⟩ := ci.cells x c b
    exact .inr ⟨a1, c, b, by rw [IsCell.inj d (n₀.sameBut kk (hcell x c b))]; exact n₀⟩
  obtain ⟨o, e⟩ := ci.live x a hdx this
  exact dom a o e
end
end Mine
end

section
set_option Elab.async false
set_option maxRecDepth 100000
namespace Mine
open PySem PyProof.Rows
theorem VH {prog : Program} {w : World} {A : Around} {R : Result → Shared → Prop} {s : Shared} {elt target iter : Expr} {ifs : List Expr} {scope : Scope} {pos : Pos} {it acc : Value} {env : Env} (I : Nat → Shared → Prop)
  (turn : ∀ n s, I n s → wpAny (model prog w) A (pyNext it) (fun r s₁ => match r with
   | none => R (.ok .next) s₁
   | some v => wpAny (model prog w) A (letOwnedTupleGo target it v) (fun _ s₁' => wpAny (model prog w) A (assign target env v) (fun _ s₂ =>
     wpAny (model prog w) A (forIn ifs true fun c r => if r = true then do let ok ← isTrue c env (eval c env); pure (ForInStep.yield ok) else pure (ForInStep.yield r)) (fun ok s₃ =>
      if ok = true then wpAny (model prog w) A (eval elt env) (fun x s₄ =>
       wpAny (model prog w) A (call (.builtin "list.append") [acc, x]) (fun _ s₅ => ∃ m, m < n ∧ I m s₅) (notedBy (model prog w) A env fun e s' => R (.error e) s') s₄) (notedBy (model prog w) A env fun e s' => R (.error e) s') s₃
      else ∃ m, m < n ∧ I m s₃) (notedBy (model prog w) A env fun e s' => R (.error e) s') s₂) (notedBy (model prog w) A env fun e s' => R (.error e) s') s₁') (notedBy (model prog w) A env fun e s' => R (.error e) s') s₁) (notedBy (model prog w) A env fun e s' => R (.error e) s') s)
  (n : Nat) (h : I n s) : codeAny (model prog w) A (.compLoop (.ListComp elt [⟨target, iter, ifs, 0⟩] scope pos) 0 it acc env) R s := by
 refine codeAny_loop rfl I (fun n s hI => ?_) n h
 show wpAny _ A ((compTurn (.ListComp elt [⟨target, iter, ifs, 0⟩] scope pos) 0 it acc env).onRaise (fun x => do noteFrame x env; theTreesLotGoes x)) _ _ s
 refine wpAny_noted ?_
 rw [compTurn_list]
 refine wpAny_bind (wpAny_standAt (wpAny_bind (wpAny_mono (turn n s hI) (fun r s₁ h₁ => ?_) fun _ _ h' => h')))
 cases r with
 | none => exact wpAny_pure h₁
 | some v =>
  refine wpAny_bind (wpAny_mono h₁ (fun _ s₁' h₁' => ?_) fun _ _ h' => h')
  refine wpAny_bind (wpAny_mono h₁' (fun _ s₂ h₂ => wpAny_bind (wpAny_mono h₂ (fun ok s₃ h₃ => ?_) fun _ _ h' => h')) fun _ _ h' => h')
  cases ok with
  | false => exact wpAny_pure ⟨rfl, h₃⟩
  | true =>
   exact wpAny_bind (wpAny_bind (wpAny_mono h₃ (fun x s₄ h₄ => wpAny_bind (wpAny_mono h₄ (fun _ s₅ h₅ => wpAny_pure (wpAny_pure ⟨rfl, h₅⟩)) fun _ _ h' => h')) fun _ _ h' => h'))
noncomputable def Kf (G : Gd) (k : Nat) (sc : Scope) (ifs : List Expr) (f : AEnv → Res Bool) : Prop :=
 ∀ cx, CxOk G cx sc k → ∀ ρ S s, Rel G cx sc ρ S s.heap → Qq G cx sc true (forIn ifs true fun c r => if r = true then do let ok ← isTrue c cx.env (eval c cx.env); pure (ForInStep.yield ok) else pure (ForInStep.yield r)) S s (fun _ _ a b => a = b) (f ρ)
noncomputable def K6 : AEnv → Res Bool := fun ρ => .ok true ρ
theorem Uz {G : Gd} {k : Nat} {sc : Scope} : Kf G k sc [] K6 := fun _ _ _ _ _ r => Qq.pure r rfl
theorem Da {G : Gd} {k : Nat} {sc : Scope} {c : Expr} {f : AEnv → Res Bool} (h : YD G k sc c f) : Kf G k sc [c] f := fun cx ok ρ S s r Q E out => wpAny_tests_one (h cx ok ρ S s r Q E out)
noncomputable def Yr (b : D → AEnv → Option AEnv) (t : AEnv → Res Bool) (f : AEnv → Res T) (ρ₀ : AEnv) : List D → List D → Option (List D)
 | [], acc => some acc
 | d :: ds, acc => match b d ρ₀ with
  | none => none
  | some ρ₁ => match t ρ₁ with
   | .ok true ρ₂ => (match f ρ₂ with
    | .ok v _ => if acc.length ≤ 1000000 then Yr b t f ρ₀ ds (acc ++ [v.val]) else none
    | _ => none)
   | .ok false _ => Yr b t f ρ₀ ds acc
   | _ => none
theorem After.ext {X : List Addr} {S₀ S S' : Addr → Prop} {h₀ h h' : Heap} (k : After X S h S' h') (x : Ext S₀ h₀ S h) (new : ∀ b ∈ X, h₀.get? b = none) : Ext S₀ h₀ S' h' :=
 ⟨fun b q => k.sub b (x.sub b q), fun b o e q => by
  obtain ⟨sl, e₁, k₁⟩ := x.keep b o e q
  obtain ⟨sl', e₂, k₂⟩ := k.keep b _ (fun m => by rw [new b m] at e; cases e) e₁
  exact ⟨sl', e₂, fun hn => (k₂ hn).trans (k₁ hn)⟩, fun b o e => by
  obtain ⟨o', e'⟩ := x.dom b o e
  exact k.domAll e'⟩
section
variable {G : Gd} {cx : Cx} {sc csc : Scope} {ρ₁ ρ₀ : AEnv} {S₁ S : Addr → Prop} {h₁ : Heap} {wr : List Addr} {C L : Addr} {k : Nat}
set_option tactic.hygienic true in
theorem Dh {tg iter elt : Expr} {ifs : List Expr} {pos : Pos} {I : Addr} {St : Nat → (Addr → Prop) → Heap → Prop} {ds out : List D} {xs : List Str} {b : D → AEnv → Option AEnv} {t : AEnv → Res Bool} {f : AEnv → Res T} {R : Result → Shared → Prop} {s : Shared} {n : Nat}
  (g : CG G cx sc csc ρ₁ S₁ h₁ wr C ρ₀) (ok : CxOk G cx sc k) (it : ItK G cx.A tg I wr St ds) (ha : Kt G (Qu csc sc) tg xs b) (hxs : ∀ x ∈ xs, csc.names.lookup x = some .local ∨ csc.names.lookup x = some .cell)
  (ht : Kf G k (Qu csc sc) ifs t) (he : Sim G k (Qu csc sc) elt f) (ci : CI G cx sc csc S₁ h₁ wr C S s.heap) (eD : s.heap.get? L = some { cls := .type "list", data := .seq #[] n }) (hD : h₁.get? L = none) (hLC : L < C) (hS : ¬ S L) (st : St 0 S s.heap)
  (hni : ∀ v, cx.A.handled = some v → ∀ b ∈ wr, v ≠ .ref b) (hc : Yr b t f ρ₀ ds [] = some out)
  (fin : ∀ S' h' tk, CI G cx sc csc S₁ h₁ wr C S' h' → XW S' h' L (.list out) → ¬ S' L → R (.ok .next) { s with heap := h', toks := tk }) :
  codeAny G.M cx.A (.compLoop (.ListComp elt [⟨tg, iter, ifs, 0⟩] csc pos) 0 (.ref I) (.ref L) (YN csc sc cx.env C)) R s := by
 have hLX : L ∉ wr ++ C :: WX csc cx.env C := fun m => by
  rcases List.mem_append.mp m with m | m
  ·obtain ⟨o, e, _⟩ := ci.aft.shape L m; rw [hD] at e; cases e
  ·rcases List.mem_cons.mp m with rfl | m
   ·exact absurd hLC (Nat.lt_irrefl _)
   ·unfold WX at m
    obtain ⟨p, hp, rfl⟩ := List.mem_map.mp m
    have := (List.mem_filter.mp hp).2
    simp only [decide_eq_true_eq] at this
    exact absurd hLC (Nat.not_lt.mpr (Nat.le_of_lt this))
 have hLw : L ∉ wr := fun m => hLX (List.mem_append.mpr (.inl m))
 obtain ⟨Inv, hI⟩ : ∃ Inv : Nat → Shared → Prop, ∀ m s', Inv m s' ↔ ∃ i S' h' tk acc vs n, m = ds.length + 1 - i ∧ i ≤ ds.length ∧ s' = { s with heap := h', toks := tk } ∧ CI G cx sc csc S₁ h₁ wr C S' h' ∧ St i S' h' ∧ h'.get? L = some { cls := .type "list", data := .seq vs n } ∧ RVs S' h' vs.toList acc ∧ ¬ S' L ∧ Yr b t f ρ₀ (ds.drop i) acc = some out := ⟨_, fun _ _ => Iff.rfl⟩
 refine VH Inv ?_ (ds.length + 1) ((hI _ _).mpr ⟨0, S, s.heap, s.toks, [], #[], n, rfl, Nat.zero_le _, rfl, ci, st, eD, .nil, hS, by rw [List.drop_zero]; exact hc⟩)
 generalize (notedBy G.M cx.A (YN csc sc cx.env C) fun e s' => R (.error e) s') = EN
 intro m s' hinv
 obtain ⟨i, S', h', tk, acc, vs, n', rfl, hi, rfl, ci', st', eL, racc, hSL, hcn⟩ := (hI _ _).mp hinv
 have r' := ci'.rel g
 have new' : ∀ b ∈ wr, (OE cx csc sc C wr S' h').h₀.get? b = none ∧ G.B.get? b = none := fun b hb => ⟨by
  show (Jm h' _).get? b = none
  rw [Zd, if_pos (List.mem_append.mpr (.inl hb))], (g.new b hb).2⟩
 by_cases hlt : i < ds.length
 ·have hd : ds[i]? = some ds[i] := List.getElem?_eq_getElem hlt
  rw [X8 hd, Yr] at hcn
  split at hcn
  ·cases hcn
  rename_i ρ₂ hb
  refine wpAny_mono (it.item i S' { s with heap := h', toks := tk } ds[i] (fun v s₂ => wpAny G.M cx.A (assign tg (YN csc sc cx.env C) v) (fun _ s₂ =>
     wpAny G.M cx.A (forIn ifs true fun c r => if r = true then do let ok ← isTrue c (YN csc sc cx.env C) (eval c (YN csc sc cx.env C)); pure (ForInStep.yield ok) else pure (ForInStep.yield r)) (fun ok s₃ =>
      if ok = true then wpAny G.M cx.A (eval elt (YN csc sc cx.env C)) (fun x s₄ =>
       wpAny G.M cx.A (call (.builtin "list.append") [.ref L, x]) (fun _ s₅ => ∃ m, m < ds.length + 1 - i ∧ Inv m s₅) EN s₄) EN s₃
      else ∃ m, m < ds.length + 1 - i ∧ Inv m s₃) EN s₂) EN s₂) _ EN hd st' fun v h₂ t₂ rv st₂ kb => ?_) (fun rr s₁ hh => by
   obtain ⟨v, rfl, hh⟩ := hh
   exact hh) fun _ _ e => e
  obtain ⟨r₂, v₂⟩ := r'.aside (it.shape i S' h' st') new' kb
  have ok' : CxOk G (OE cx csc sc C wr S' h') (Qu csc sc) k := CI.ok g ok
  refine ha (OE cx csc sc C wr S' h') k ok' (CI.fn g ci') (fun x hx => CI.own g (hxs x hx)) ρ₀ S' { s with heap := h₂, toks := t₂ } v ds[i] ρ₂ r₂ rv hb _ _ ?_
  intro _ h₃ t₃ S₃ r₃ _ x₃ _
  have st₃ := it.ext _ _ _ _ _ st₂ x₃
  have racc₃ : RVs S₃ h₃ vs.toList acc := (racc.aside (it.shape i S' h' st') kb).ext x₃
  refine ht (OE cx csc sc C wr S' h') ok' ρ₂ S₃ { s with heap := h₃, toks := t₃ } r₃ _ _ ?_
  have done : ∀ {ρ' S'' h''}, Rel G (OE cx csc sc C wr S' h') (Qu csc sc) ρ' S'' h'' → (∀ b, S' b → S'' b) → St (i + 1) S'' h'' → CI G cx sc csc S₁ h₁ wr C S'' h'' ∧ h''.get? L = some { cls := .type "list", data := .seq vs n' } ∧ ¬ S'' L := fun {ρ' S'' h''} r sub st => by
   refine ⟨CI.of_rel g ci' r sub fun b hb => let ⟨o, e, _⟩ := it.shape _ _ _ st b hb; ⟨o, e⟩, ?_, fun q => ?_⟩
   ·have : (Jm h' (wr ++ C :: WX csc cx.env C)).get? L = some { cls := .type "list", data := .seq vs n' } := by rw [Zd, if_neg hLX]; exact eL
    exact r.keep.exact this (.seq rfl)
   ·rcases r.sok L q with q | q
    ·exact hSL q
    ·have q : (Jm h' (wr ++ C :: WX csc cx.env C)).get? L = none := q
     rw [Zd, if_neg hLX, eL] at q; cases q
  split at hcn
  ·rename_i ρ₃ htv
   rw [htv]
   intro a h₄ t₄ S₄ r₄ j₄ x₄ _
   subst j₄
   simp only [if_true]
   have st₄ := it.ext _ _ _ _ _ st₃ x₄
   split at hcn
   ·rename_i v' ρ₄ hfv
    split at hcn
    ·rename_i hlen
     refine (he (OE cx csc sc C wr S' h') ok' ρ₃ S₄ { s with heap := h₄, toks := t₄ } r₄).shared _ _ ?_
     rw [hfv]
     intro y h₅ t₅ S₅ r₅ j₅ x₅ _
     have st₅ := it.ext _ _ _ _ _ st₄ x₅
     have racc₅ : RVs S₅ h₅ vs.toList acc := (racc₃.ext x₄).ext x₅
     obtain ⟨ci₅, eL₅, hS₅⟩ := done r₅ (fun b q => x₅.sub b (x₄.sub b (x₃.sub b q))) st₅
     have hvl : vs.size = acc.length := by rw [← racc.length]; simp
     refine call_meets F.slot_list_append ⟨_, eL₅, rfl⟩ F.entry_list_append (F.args_list_append_2 _ _) (list_append L vs n' y (by rw [hvl, sizeLine_eq]; omega)) ⟨eL₅, ?_⟩
     obtain ⟨m', hm'⟩ := JH (fun xs => xs.push y) eL₅
     have sb : Heap.SameBut L h₅ (h₅.update L (Obj.mapSeq fun xs => xs.push y)) := Heap.SameBut.update ..
     have x₆ : Ext S₅ h₅ S₅ (h₅.update L (Obj.mapSeq fun xs => xs.push y)) := RV.but eL₅ Ka hS₅ (fun b o hb eb => (sb.2 b hb).trans eb) ⟨_, hm'⟩
     refine ⟨ds.length + 1 - (i + 1), by omega, (hI _ _).mpr ⟨i + 1, S₅, _, t₅, acc ++ [v'.val], vs.push y, m', rfl, hlt, rfl, CI.append g ci₅ eL₅ rfl hD sb hm', it.ext _ _ _ _ _ st₅ x₆, hm', ?_, hS₅, hcn⟩⟩
     rw [Array.toList_push]
     exact RVs.append (.cons (RV.ext x₆ j₅) .nil) (racc₅.ext x₆)
    ·cases hcn
   ·cases hcn
  ·rename_i ρ₃ htv
   rw [htv]
   intro a h₄ t₄ S₄ r₄ j₄ x₄ _
   subst j₄
   simp only [Bool.false_eq_true, if_false]
   have st₄ := it.ext _ _ _ _ _ st₃ x₄
   obtain ⟨ci₄, eL₄, hS₄⟩ := done r₄ (fun b q => x₄.sub b (x₃.sub b q)) st₄
   exact ⟨ds.length + 1 - (i + 1), by omega, (hI _ _).mpr ⟨i + 1, S₄, h₄, t₄, acc, vs, n', rfl, hlt, rfl, ci₄, st₄, eL₄, racc₃.ext x₄, hS₄, hcn⟩⟩
  ·cases hcn
 ·have hie : i = ds.length := by omega
  subst hie
  rw [List.drop_length, Yr] at hcn
  cases hcn
  refine it.done S' { s with heap := h', toks := tk } _ _ st' r'.hOk hni fun h₂ t₂ kb => ?_
  have sh := it.shape _ S' h' st'
  obtain ⟨r₂, v₂⟩ := r'.aside sh new' kb
  refine fin S' h₂ t₂ (CI.of_rel g ci' r₂ (fun _ q => q) kb.2) ⟨vs, n', kb.1 L _ hLw eL, racc.aside sh kb⟩ hSL
end
end Mine
end

section
set_option Elab.async false
set_option maxRecDepth 100000
namespace Mine
open PySem PyProof.Rows
set_option tactic.hygienic true in
theorem YV : ∀ {l : List (Str × NameKind)} {h : Heap} {acc : List (Str × Addr)} {x : Str} {c : Addr}, (cellsFrom h.objs.size l acc).lookup x = some c → (∃ c', acc.lookup x = some c' ∧ c' = c) ∨ ((pushCells h l).IsCell c none ∧ h.objs.size ≤ c)
 | [], _, _, _, _, q => .inl ⟨_, q, rfl⟩
 | (y, k) :: r, h, acc, x, c, q => by
  unfold cellsFrom at q
  unfold pushCells
  split at q
  ·rename_i hk
   rw [if_pos hk]
   rw [show h.objs.size + 1 = (h.push { cls := .type "cell", data := .cell none }).objs.size from (Heap.size_push ..).symm] at q
   rcases YV q with ⟨c', q', rfl⟩ | ⟨q', hl⟩
   ·rw [List.lookup_cons] at q'
    cases hx : x == y with
    | true =>
     rw [hx] at q'; cases q'
     exact .inr ⟨⟨_, pushCells_keeps _ _ _ _ (Heap.get?_push_size _ rfl), rfl⟩, Nat.le_refl _⟩
    | false => rw [hx] at q'; exact .inl ⟨_, q', rfl⟩
   ·rw [Heap.size_push] at hl
    exact .inr ⟨q', Nat.le_of_succ_le hl⟩
  ·rename_i hk
   rw [if_neg hk]
   exact YV q
section
variable {G : Gd} {cx : Cx} {sc csc : Scope} {ρ₁ ρ₀ : AEnv} {S₁ : Addr → Prop} {h₁ : Heap} {wr : List Addr} {k : Nat}
noncomputable def YG (h₁ : Heap) (csc : Scope) : Heap := pushCells ((h₁.push { cls := .type "list", data := .seq ([] : List Value).toArray }).push { cls := .type "dict", data := .dict #[] }) csc.names
theorem Xn {b : Addr} {o : Obj} (e : h₁.get? b = some o) : (YG h₁ csc).get? b = some o := pushCells_keeps _ _ _ _ (Heap.get?_push_of_some _ (Heap.get?_push_of_some _ e))
theorem CI.init (g : CG G cx sc csc ρ₁ S₁ h₁ wr (h₁.objs.size + 1) ρ₀) (sh : ∀ b ∈ wr, ∃ o, h₁.get? b = some o ∧ X1 o) : CI G cx sc csc S₁ h₁ wr (h₁.objs.size + 1) S₁ (YG h₁ csc) := by
 have hs : ((h₁.push { cls := .type "list", data := .seq ([] : List Value).toArray }).push { cls := .type "dict", data := .dict #[] }).objs.size = h₁.objs.size + 1 + 1 := by rw [Heap.size_push, Heap.size_push]
 have ns : (YG h₁ csc).Ns (h₁.objs.size + 1) fun _ => none := by
  have := (Heap.Ns.new (h₁.push { cls := .type "list", data := .seq ([] : List Value).toArray }) (.type "dict")).keeps (pushCells_keeps csc.names _)
  rw [Heap.size_push] at this
  exact this
 have cell : ∀ x c, (XS csc cx.env (h₁.objs.size + 1)).lookup x = some c → (csc.names.lookup x = some .free ∧ cx.env.cells.lookup x = some c) ∨ ((YG h₁ csc).IsCell c none ∧ h₁.objs.size + 2 ≤ c) := fun x c q => by
  rcases g.cellOf q with ⟨hc, _⟩ | ⟨a, b, _⟩
  ·unfold XS at q
   rw [← hs] at q
   rcases YV q with ⟨c', q', rfl⟩ | ⟨q', hl⟩
   ·rcases X3 q' with q' | q'
    ·obtain ⟨v, o, e, _⟩ := g.r.cells x c' q'
     exact absurd (Heap.lt_size e) (Nat.not_lt.mpr (Nat.le_of_lt (Nat.lt_of_succ_lt hc)))
    ·cases q'
   ·rw [hs] at hl; exact .inr ⟨q', hl⟩
  ·exact .inl ⟨a, b⟩
 refine { aft := ⟨fun b o _ e => ⟨o.slots, Xn e, fun _ => rfl⟩, fun b hb => let ⟨o, e, _⟩ := sh b hb; ⟨o, Xn e⟩, sh, fun _ q => q, fun b q => .inl q, fun b q => let ⟨o, e⟩ := g.r.sdom b q; ⟨o, Xn e⟩⟩, base := fun b o e => Xn (g.r.base b o e), ns := ⟨_, ns⟩, cells := fun x c q => ?_, sloc := fun q => ?_, scell := fun x c q q' => ?_, live := fun x a hd q => ?_ }
 ·rcases cell x c q with ⟨_, q⟩ | ⟨q, _⟩
  ·obtain ⟨v, o, e, hd⟩ := g.r.cells x c q
   exact ⟨v, o, Xn e, hd⟩
  ·exact ⟨_, q⟩
 ·obtain ⟨o, e⟩ := g.r.sdom _ q
  exact absurd (Heap.lt_size e) (Nat.not_lt.mpr (Nat.le_succ _))
 ·rcases cell x c q with ⟨_, q⟩ | ⟨_, hl⟩
  ·exact g.r.scell x c q q'
  ·obtain ⟨o, e⟩ := g.r.sdom _ q'
   exact absurd (Heap.lt_size e) (Nat.not_lt.mpr (Nat.le_of_succ_le (Nat.le_of_succ_le hl)))
 ·rcases q with ⟨a1, m, n, e⟩ | ⟨a1, c, q, n⟩
  ·have := ns.agree n x; rw [e] at this; cases this
  ·rcases cell x c q with ⟨hf, hl⟩ | ⟨q', _⟩
   ·obtain ⟨v, n₀⟩ := g.r.cells x c hl
    have n₁ : (YG h₁ csc).IsCell c v := n₀.keeps fun b o e => Xn e
    cases IsCell.inj n n₁
    obtain ⟨_, hk⟩ := g.free (Z5 hf)
    have hkk : cx.env.kindOf x = sc.names.lookup x := by unfold Env.kindOf; rw [g.hsc]
    obtain ⟨o, e⟩ := g.r.live x a hd (.inr ⟨by rw [hkk]; exact hk, c, hl, n₀⟩)
    exact ⟨o, Xn e⟩
   ·cases IsCell.inj n q'
end
noncomputable def WF (sc csc : Scope) (src : AEnv → Res (List D)) (b : D → AEnv → Option AEnv) (t : AEnv → Res Bool) (f : AEnv → Res T) : AEnv → Res T := fun ρ => match Km sc csc ρ (Qf (Qu csc sc)) with
 | none => .stuck
 | some _ => match src ρ with
  | .ok ds ρ₁ => (match Km sc csc ρ₁ (Qf (Qu csc sc)) with
   | some ρ₀ => (match Yr b t f ρ₀ ds [] with
    | some out => .ok (.ow true (.list out)) ρ₁
    | none => .stuck)
   | none => .stuck)
  | _ => .stuck
set_option tactic.hygienic true in
theorem Er {sc csc : Scope} {src : AEnv → Res (List D)} {b : D → AEnv → Option AEnv} {t : AEnv → Res Bool} {f : AEnv → Res T} {ρ : AEnv} (h : WF sc csc src b t f ρ ≠ .stuck) :
  ∃ ρ' ds ρ₁ ρ₀ out, Km sc csc ρ (Qf (Qu csc sc)) = some ρ' ∧ src ρ = .ok ds ρ₁ ∧ Km sc csc ρ₁ (Qf (Qu csc sc)) = some ρ₀ ∧ Yr b t f ρ₀ ds [] = some out ∧ WF sc csc src b t f ρ = .ok (.ow true (.list out)) ρ₁ := by
 unfold WF at h ⊢
 split at h
 ·exact absurd rfl h
 ·rename_i ρ' h1
  split at h
  ·rename_i ds ρ₁ h2
   split at h
   ·rename_i ρ₀ h3
    split at h
    ·rename_i out h4
     exact ⟨ρ', ds, ρ₁, ρ₀, out, h1, h2, h3, h4, rfl⟩
    ·exact absurd rfl h
   ·exact absurd rfl h
  ·exact absurd rfl h
theorem FC {G : Gd} {cx : Cx} {sc : Scope} {ρ : AEnv} {S : Addr → Prop} {i : Nat} {x : Str} {v : Value} {t : T} {s : Shared} {E : Value → Shared → Prop} {Q : Unit → Shared → Prop} (ok : CxOk G cx sc 0) (fn : FnCx G cx) (r : Rel G cx sc ρ S s.heap) (hx : (Qf sc)[i]? = some x) (hk : sc.names.lookup x = some .local) (hcl : Xb x = false ∨ ∃ d, t = .sh d) (tv : Jp cx S s.heap v t)
  (hQ : ∀ h' tk, Rel G cx sc (ρ.set i (some t)) S h' → Ext S s.heap S h' → Heap.SameBut cx.env.locals s.heap h' → (∀ y w, y ≠ x → Var cx.env h' y w → Var cx.env s.heap y w) → Q () { s with heap := h', toks := tk }) : wpAny G.M cx.A (storeName cx.env x v) Q E s := by
 have hkf : cx.env.scope.kind = .function := by rw [ok.hsc]; exact ok.hk
 have kd : ∀ y, cx.env.kindOf y = sc.names.lookup y := fun y => by unfold Env.kindOf; rw [ok.hsc]
 obtain ⟨m, hm⟩ := r.ns
 have hm0 := hm
 obtain ⟨oL, es, ep, eL, dL, _⟩ := hm0
 refine wpAny_storeName_local ((kd x).trans hk) hm (fun h' n' k => ?_) (by rw [hkf]; rfl)
 have n'' := n'
 obtain ⟨oL', es', ep', eL', dL', _⟩ := n''
 have cellsame : ∀ y c, cx.env.cells.lookup y = some c → ∀ w, s.heap.IsCell c w → h'.IsCell c w := fun y c q w n => n.sameBut k (fn.loc y c q)
 have vx : Var cx.env h' x v := .inl ⟨(kd x).trans hk, _, n', by simp⟩
 have hf : ∀ y w, y ≠ x → Var cx.env h' y w → Var cx.env s.heap y w := fun y w hy q => by
  rcases q with ⟨a, m₁, b, c⟩ | ⟨a, c, b, d⟩
  ·refine .inl ⟨a, m, hm, ?_⟩
   have := b.agree n' y
   rw [if_neg hy] at this
   rw [← this]; exact c
  ·obtain ⟨w₀, n₀⟩ := r.cells y c b
   exact .inr ⟨a, c, b, by rw [IsCell.inj d (cellsame y c b _ n₀)]; exact n₀⟩
 obtain ⟨r', x'⟩ := r.store (loc := cx.env.locals) (i := i) (x := x) (v := v) (t := t) fn.bh ok.nodup hx eL (by rintro (⟨_, vs, n, q⟩ | ⟨vs, q⟩) <;> (rw [dL] at q; cases q)) (fun vs n q => by rw [dL] at q; cases q) r.sloc fn.lnew (.inl rfl) k
  ⟨oL', eL', fun _ => ⟨es', ep', dL'⟩⟩ ⟨_, n'⟩ (fun y c q => let ⟨w, n⟩ := r.cells y c q; ⟨w, cellsame y c q w n⟩) vx
  (fun y w hy q => by
   rcases q with ⟨a, m₁, b, c⟩ | ⟨a, c, b, d⟩
   ·refine .inl ⟨a, _, n', ?_⟩
    rw [if_neg hy, ← b.agree hm y]; exact c
   ·exact .inr ⟨a, c, b, cellsame y c b _ d⟩)
  hf hcl tv.st
 exact hQ h' _ r' x' k hf
theorem Rel.butDict {G : Gd} {cx : Cx} {sc : Scope} {ρ : AEnv} {S : Addr → Prop} {h h' : Heap} {C : Addr} {oC : Obj} {es : Array DictEntry} {ep : Nat} (r : Rel G cx sc ρ S h) (e : h.get? C = some oC) (hd : oC.data = .dict es ep) (hS : ¬ S C) (hl : C ≠ cx.env.locals) (h0 : cx.h₀.get? C = none) (hB : G.B.get? C = none) (hff : ∀ env ∈ cx.fs, env.frame ≠ some C) (hv : ∀ (j : Nat) (y : Str) (m : Bool) (ks : List (List Int)) (ds : List D), (Qf sc)[j]? = some y → ρ[j]? = some (some (.ow m (.dict ks ds))) → ¬ Var cx.env h y (.ref C)) (k : Heap.SameBut C h h') (e' : ∃ o, h'.get? C = some o) :
  Rel G cx sc ρ S h' ∧ Ext S h S h' ∧ Qv cx.env h h' ∧ (∀ y w, Var cx.env h' y w → Var cx.env h y w) := by
 have hi : ¬ Imm oC := by rintro (⟨_, vs, n, q⟩ | ⟨vs, q⟩) <;> (rw [hd] at q; cases q)
 have x' : Ext S h S h' := RV.but e hi hS (fun b o hb eb => (k.2 b hb).trans eb) e'
 have nsame : ∀ m, h.Ns cx.env.locals m → h'.Ns cx.env.locals m := fun m n => n.sameBut k (Ne.symm hl)
 have cne : ∀ y c, cx.env.cells.lookup y = some c → c ≠ C := fun y c q => by
  rintro rfl
  obtain ⟨v, o, e'', hd'⟩ := r.cells y _ q
  rw [e] at e''; cases e''; rw [hd] at hd'; cases hd'
 have csame : ∀ y c, cx.env.cells.lookup y = some c → ∀ w, h.IsCell c w → h'.IsCell c w := fun y c q w n => n.sameBut k (cne y c q)
 have same : Qv cx.env h h' := fun y w q => by
  rcases q with ⟨a, m₁, b, c⟩ | ⟨a, c, b, d⟩
  ·exact .inl ⟨a, m₁, nsame m₁ b, c⟩
  ·exact .inr ⟨a, c, b, csame y c b _ d⟩
 have hf : ∀ y w, Var cx.env h' y w → Var cx.env h y w := fun y w q => by
  rcases q with ⟨a, m₁, b, c⟩ | ⟨a, c, b, d⟩
  ·obtain ⟨m₀, n₀⟩ := r.ns
   exact .inl ⟨a, m₀, n₀, by rw [(nsame m₀ n₀).agree b y]; exact c⟩
  ·obtain ⟨w₀, n₀⟩ := r.cells y c b
   exact .inr ⟨a, c, b, by rw [IsCell.inj d (csame y c b _ n₀)]; exact n₀⟩
 refine ⟨⟨fun b o q => (k.2 b (by rintro rfl; rw [hB] at q; cases q)).trans (r.base b o q), fun b o q => ?_, fun env he => ?_, let ⟨m, n⟩ := r.ns; ⟨m, nsame m n⟩, fun y c q => let ⟨w, n⟩ := r.cells y c q; ⟨w, csame y c q w n⟩, fun b q => let ⟨o, eo⟩ := r.sdom b q; x'.dom b o eo, r.sok, r.sloc, r.scell, fun y b hdy q => let ⟨o, eo⟩ := r.live y b hdy (hf y _ q); x'.dom b o eo, r.clean, fun v q => let ⟨C, e⟩ := r.hok v q; ⟨C, e.ext x'⟩, fun j y u hy hu => ?_, fun j l y z m m' d d' u hy hz hj hl a b => r.inj j l y z m m' d d' u hy hz hj hl (hf y _ a) (hf z _ b), r.dok.back hf⟩, x', same, hf⟩
 ·obtain ⟨sl, q₁, k₁⟩ := r.keep b o q
  exact ⟨sl, (k.2 b (by rintro rfl; rw [h0] at q; cases q)).trans q₁, k₁⟩
 ·obtain ⟨p, L, o, b, c, d, es, n, q⟩ := r.ff env he
  exact ⟨p, L, o, b, c, (k.2 L (by rintro rfl; exact hff env he b)).trans d, es, n, q⟩
 ·obtain ⟨w, hw', tw⟩ := r.vars j y u hy hu
  refine ⟨w, same y w hw', ?_⟩
  cases u with
  | sh d => exact RV.ext x' tw
  | ow m d =>
   obtain ⟨b, rfl, n1, ow, n2⟩ := tw
   refine ⟨b, rfl, n1, ow.ext x' fun o eo => ⟨o.slots, (k.2 b ?_).trans eo, fun _ => rfl⟩, n2⟩
   rintro rfl
   rcases ow.cases with ow | ⟨ks, ds, rfl, _⟩
   ·obtain ⟨o', ho', _, vs, n, hd'⟩ := ow.cls
    rw [e] at ho'; cases ho'; rw [hd] at hd'; cases hd'
   ·exact hv j y m ks ds hy hu hw'
noncomputable def Eu (M : Model) (A : Around) (E : Value → Shared → Prop) (use : Option (Value → Sem Unit)) (Q : Value → Shared → Prop) (acc : Value) (C : Addr) (r : Result) (s' : Shared) : Prop := match r, use with
 | .ok _, none => ∃ m, s'.heap.Ns C m ∧ ∀ h' m', h'.Ns C m' → Heap.SameBut C s'.heap h' → Q acc { s' with heap := h' }
 | .ok _, some u => wpAny M A (u acc) (fun _ s'' => ∃ m, s''.heap.Ns C m ∧ ∀ h' m', h'.Ns C m' → Heap.SameBut C s''.heap h' → Q .none { s'' with heap := h' }) E s'
 | .error _, _ => False
theorem W6 {M : Model} {A : Around} {E : Value → Shared → Prop} {s : Shared} {env : Env} {e : Expr} {scope : Scope} {pos : Pos} {newAcc first : Sem Value} {g : Comprehension} {gs : List Comprehension} {cl : List (Str × Addr)} {use : Option (Value → Sem Unit)} {Q : Value → Shared → Prop}
  (hcl : clausesOf e = g :: gs) (hs : ∀ x, foldedSetIterable g.iter env x = pure x) (hclos : closureFor scope env = pure cl) (hkind : scope.kind = .function) (hnames : ∀ x ∈ scope.names, x.2 = .local → scope.names.lookup x.1 = some .local)
  (h : wpAny M A first (fun x s₁ => wpAny M A (pyIter x) (fun it s₂ => wpAny M A newAcc (fun acc s₃ => wpAny M A (newFunctionEnv scope env.globals cl [] env.qual none .none (some env)) (fun cenv s₄ =>
   codeAny M A (.compStart e 0 it acc { cenv with scope := relabel scope env }) (Eu M A E use Q acc cenv.locals) s₄) E s₃) E s₂) E s₁) E s) :
  wpAny M A (comprehension e scope env pos newAcc false first use) Q E s := by
 unfold comprehension
 rw [hclos, hcl]
 refine wpAny_bind (wpAny_mono h (fun x s₁ h₁ => wpAny_bind (wpAny_standAt (wpAny_bind (wpAny_of_eq (hs x) (wpAny_bind (wpAny_holding (wpAny_mono h₁ (fun it s₂ h₂ => wpAny_standIf (wpAny_bind (wpAny_mono h₂ (fun acc s₃ h₃ => wpAny_bind (wpAny_pure (wpAny_bind (wpAny_mono h₃ (fun cenv s₄ h₄ => ?_) fun _ _ z => z)))) fun _ _ z => z))) fun _ _ z => z))))))) fun _ _ z => z)
 dsimp only
 have loc : ∀ x : Str × NameKind, x ∈ scope.names → x.2 = .local → Env.kindOf { cenv with scope := relabel scope env } x.1 = some .local := fun x hx hl => lookup_relabel_local (hnames x hx hl)
 have v1 : ∀ x ∈ (scope.names.filter fun x => (x.2 == .local || x.2 == .cell) && x.1 != (".0" : Str)).reverse, x.2 = .local → Env.kindOf { cenv with scope := relabel scope env } x.1 = some .local := fun x hx => loc x (List.mem_filter.mp (List.mem_reverse.mp hx)).1
 refine wpAny_holding (wpAny_bind (wpAny_attempt (wpAny_holding (wpAny_run (codeAny_mono h₄ fun r s' hr => ?_)))))
 cases r with
 | error x => cases use <;> exact hr.elim
 | ok f =>
  cases use with
  | none =>
   obtain ⟨m, hn, hr⟩ := hr
   exact wpAny_bind (wpAny_holding (wpAny_comp_letGo (cenv := { cenv with scope := relabel scope env }) hkind _ s' m v1 hn fun h' m' hn' hs' => wpAny_pure (hr h' m' hn' hs')))
  | some u =>
   refine wpAny_bind (wpAny_rule (wpAny_bind (wpAny_holding (wpAny_mono hr (fun _ s'' hr' => ?_) fun _ _ z => z))))
   obtain ⟨m, hn, hr'⟩ := hr'
   refine wpAny_bind (wpAny_comp_letGo (cenv := { cenv with scope := relabel scope env }) hkind _ s'' m (fun x hx => ?_) hn fun h' m' hn' hs' => wpAny_pure (hr' h' m' hn' hs'))
   rcases List.mem_append.mp hx with q | q
   ·exact v1 x (List.mem_of_mem_drop q)
   ·exact v1 x (List.mem_of_mem_take q)
theorem After.varBack {G : Gd} {cx : Cx} {sc : Scope} {ρ : AEnv} {X : List Addr} {S S' : Addr → Prop} {h h' : Heap} (k : After X S h S' h') (r : Rel G cx sc ρ S h) {y : Str} {w : Value} (q : Var cx.env h' y w) : Var cx.env h y w := by
 rcases q with ⟨a, m₁, b, c⟩ | ⟨a, c, b, d⟩
 ·obtain ⟨m₀, n₀⟩ := r.ns
  exact .inl ⟨a, m₀, n₀, by rw [(k.ns n₀).agree b y]; exact c⟩
 ·obtain ⟨w₀, n₀⟩ := r.cells y c b
  exact .inr ⟨a, c, b, by rw [IsCell.inj d (k.cell n₀)]; exact n₀⟩
section
variable {G : Gd} {k : Nat} {sc csc : Scope}
theorem Vu {cx : Cx} {ρ : AEnv} {S : Addr → Prop} {s : Shared} {tg iter elt : Expr} {ifs : List Expr} {pos p : Pos} {xs : List Str} {src : AEnv → Res (List D)} {b : D → AEnv → Option AEnv} {t : AEnv → Res Bool} {f : AEnv → Res T} {use : Option (Value → Sem Unit)} {Q : Value → Shared → Prop} {E : Value → Shared → Prop}
  (hi : OH G k sc tg iter src) (ha : Kt G (Qu csc sc) tg xs b) (hxs : ∀ x ∈ xs, csc.names.lookup x = some .local ∨ csc.names.lookup x = some .cell) (ht : Kf G k (Qu csc sc) ifs t) (he : Sim G k (Qu csc sc) elt f) (hok : Jb sc csc = true)
  (hs : ∀ env x, foldedSetIterable iter env x = pure x) (ok : CxOk G cx sc k) (r : Rel G cx sc ρ S s.heap) (nst : WF sc csc src b t f ρ ≠ .stuck)
  (fin : ∀ out ρ₁ L C S' h' tk, WF sc csc src b t f ρ = .ok (.ow true (.list out)) ρ₁ → Rel G cx sc ρ₁ S' h' → Ext S s.heap S' h' → Qv cx.env s.heap h' → EC cx S' h' (.ref L) (.list out) → (∃ m, h'.Ns C m) → ¬ S' C → C ≠ L → C ≠ cx.env.locals → cx.h₀.get? C = none → G.B.get? C = none → s.heap.get? C = none → (∀ env ∈ cx.fs, env.frame ≠ some C) → (∀ (j : Nat) (y : Str) (m : Bool) (ks : List (List Int)) (ds : List D), (Qf sc)[j]? = some y → ρ₁[j]? = some (some (.ow m (.dict ks ds))) → ¬ Var cx.env h' y (.ref C)) →
   Eu G.M cx.A E use Q (.ref L) C (.ok .next) { s with heap := h', toks := tk }) :
  wpAny G.M cx.A (comprehension (.ListComp elt [⟨tg, iter, ifs, 0⟩] csc pos) csc cx.env p (newList []) false (eval iter cx.env) use) Q E s := by
 have hok0 := hok
 unfold Jb at hok0
 simp only [Bool.and_eq_true, beq_iff_eq] at hok0
 have hkind : csc.kind = .function := hok0.1.1
 have hnd : (csc.names.map (·.1)).Nodup := Ze hok0.1.2
 obtain ⟨ρ', ds, ρ₁, ρ₀, out, c1, c2, c3, c4, c5⟩ := Er nst
 have g₀ : CG G cx sc csc ρ S s.heap [] s.heap.objs.size ρ' := ⟨ok.hsc, r, (fun b hb => by cases hb), Nat.le_refl _, hok, c1⟩
 have hcl : ∀ x ∈ csc.names, x.2 = .free → ∃ c, cx.env.cells.lookup x.1 = some c := fun x hx hf => by
  obtain ⟨n, kk⟩ := x
  cases hf
  obtain ⟨c, v, i, t, h1, _⟩ := g₀.taken (YU hnd hx)
  exact ⟨c, h1⟩
 refine W6 (use := use) rfl (hs cx.env) (ON hcl) hkind (fun x hx hl => by
  obtain ⟨n, kk⟩ := x
  cases hl
  exact YU hnd hx) ?_
 refine hi cx ok ρ S s r _ E ?_
 rw [c2]
 intro I wr St S₁ h₁ t₁ r₁ it st nw x₁ v₁
 have new : ∀ b ∈ wr, cx.h₀.get? b = none ∧ G.B.get? b = none := fun b hb => ⟨r.keep.none (nw b hb), by
  cases q : G.B.get? b with
  | none => rfl
  | some o => have := r.base b o q; rw [nw b hb] at this; cases this⟩
 have g : CG G cx sc csc ρ₁ S₁ h₁ wr (h₁.objs.size + 1) ρ₀ := ⟨ok.hsc, r₁, new, Nat.le_succ _, hok, c3⟩
 have sh := it.shape 0 S₁ h₁ st
 have ci := CI.init g sh
 refine wpAny_newObj_type (UJ ?_) (by show ([] : List Value).toArray.size ≤ sizeLine; simp)
 dsimp only
 rw [Heap.size_push]
 have envE : ({ scope := relabel csc cx.env, locals := h₁.objs.size + 1, globals := cx.env.globals, cells := cellsFrom (h₁.objs.size + 1 + 1) csc.names (YK cx.env csc.names []), qual := cx.env.qual, func := none, code := cx.env.code, frame := cx.env.frame, builtins := cx.env.builtins } : Env) = YN csc sc cx.env (h₁.objs.size + 1) := by
  unfold YN XS
  rw [Ca ok.hsc]
 rw [envE]
 have hn₁ : h₁.get? h₁.objs.size = none := Heap.get?_none_of_le (Nat.le_refl _)
 have hn₂ : h₁.get? (h₁.objs.size + 1) = none := Heap.get?_none_of_le (Nat.le_succ _)
 have loop : codeAny G.M cx.A (.compLoop (.ListComp elt [⟨tg, iter, ifs, 0⟩] csc pos) 0 (.ref I) (.ref h₁.objs.size) (YN csc sc cx.env (h₁.objs.size + 1))) (Eu G.M cx.A E use Q (.ref h₁.objs.size) (h₁.objs.size + 1)) { s with heap := YG h₁ csc, toks := t₁ } := by
  refine Dh (s := { s with heap := YG h₁ csc, toks := t₁ }) (n := 0) g ok it ha hxs ht he ci ?_ hn₁ (Nat.lt_succ_self _) (fun q => ?_) (it.ext 0 S₁ h₁ S₁ _ st (Ext.of_keeps fun b o e => Xn e)) (Eh r.hOk nw) c4 fun S' h' tk ci' own hSL => ?_
  ·exact pushCells_keeps _ _ _ _ (Heap.get?_push_of_some _ (Heap.get?_push_size _ rfl))
  ·obtain ⟨o, e⟩ := r₁.sdom _ q; rw [hn₁] at e; cases e
  ·obtain ⟨ro, same⟩ := r₁.after ci'.aft ci'.base fun b hb => (new b hb).1
   refine fin out ρ₁ h₁.objs.size (h₁.objs.size + 1) S' h' tk c5 ro (ci'.aft.ext x₁ nw) (v₁.trans same) ⟨_, rfl, hSL, own, r₁.keep.none hn₁, fun x hd q => ?_⟩ ci'.ns ci'.sloc (Nat.succ_ne_self _) ?_ (r₁.keep.none hn₂) ?_ (x₁.none hn₂) (fun env he q => ?_) fun j y m ks ds hy hj q => ?_
   rotate_right
   ·obtain ⟨o, e⟩ := r₁.live y _ (r₁.clean j y m _ hy hj) (ci'.aft.varBack r₁ q)
    rw [hn₂] at e; cases e
   ·obtain ⟨o, e⟩ := r₁.live x _ hd (ci'.aft.varBack r₁ q)
    rw [hn₁] at e; cases e
   ·intro q
    obtain ⟨m, o, _, _, e, _⟩ := r₁.ns
    rw [← q, hn₂] at e; cases e
   ·cases q : G.B.get? (h₁.objs.size + 1) with
    | none => rfl
    | some o => have := r₁.base _ o q; rw [hn₂] at this; cases this
   ·obtain ⟨_, L, o, b, _, d, _⟩ := r₁.ff env he
    rw [q] at b; cases b
    rw [hn₂] at d; cases d
 exact codeAny_compStart_list loop (it.self 0 S₁ _ _ _ (it.ext 0 S₁ h₁ S₁ _ st (Ext.of_keeps fun b o e => Xn e)) loop)
theorem VQ {tg iter elt : Expr} {ifs : List Expr} {pos : Pos} {xs : List Str} {src : AEnv → Res (List D)} {b : D → AEnv → Option AEnv} {t : AEnv → Res Bool} {f : AEnv → Res T} (hi : OH G k sc tg iter src) (ha : Kt G (Qu csc sc) tg xs b) (hxs : ∀ x ∈ xs, csc.names.lookup x = some .local ∨ csc.names.lookup x = some .cell)
  (ht : Kf G k (Qu csc sc) ifs t) (he : Sim G k (Qu csc sc) elt f) (hok : Jb sc csc = true) (hs : ∀ env x, foldedSetIterable iter env x = pure x) : Sim G k sc (.ListComp elt [⟨tg, iter, ifs, 0⟩] csc pos) (WF sc csc src b t f) := by
 intro cx ok ρ S s r Q E out
 rw [eval_ListComp]
 refine Vu hi ha hxs ht he hok hs ok r (fun q => by rw [q] at out; exact out) fun ds ρ₁ L C S' h' tk e r' x' v' fr ns hSC hCL hCl hC0 hCB hCs hff hCv => ?_
 rw [e] at out
 obtain ⟨m, n⟩ := ns
 refine ⟨m, n, fun h'' m'' n'' k'' => ?_⟩
 obtain ⟨oC, es, ep, eC, dC, _⟩ := n
 obtain ⟨oC', _, _, eC', _⟩ := n''
 obtain ⟨r'', x'', v''⟩ := r'.butDict eC dC hSC hCl hC0 hCB hff hCv k'' ⟨_, eC'⟩
 obtain ⟨a, ea, n1, ow, n2, nv⟩ := fr
 cases ea
 exact out (.ref L) h'' tk S' r'' ⟨L, rfl, n1, ow.ext x'' fun o eo => (k''.2 L (Ne.symm hCL)).trans eo, n2, fun x hd q => nv x hd (v''.2 x _ q)⟩ (x'.trans x'') fun z => v'.trans v''.1
theorem Ko {tg iter elt : Expr} {ifs : List Expr} {pos yp spos : Pos} {xs : List Str} {y : Str} {i : Nat} {src : AEnv → Res (List D)} {b : D → AEnv → Option AEnv} {t : AEnv → Res Bool} {f : AEnv → Res T} (hi : OH G k sc tg iter src) (ha : Kt G (Qu csc sc) tg xs b) (hxs : ∀ x ∈ xs, csc.names.lookup x = some .local ∨ csc.names.lookup x = some .cell)
  (ht : Kf G k (Qu csc sc) ifs t) (he : Sim G k (Qu csc sc) elt f) (hok : Jb sc csc = true) (hs : ∀ env x, foldedSetIterable iter env x = pure x) (hy : (Qf sc)[i]? = some y) (hk : sc.names.lookup y = some .local) (hcl : Xb y = false)
  (hsw : ∀ env : Env, env.scope = sc → swapsWith (.ListComp elt [⟨tg, iter, ifs, 0⟩] csc pos) (some (.Name y yp)) spos.line env = pure true) : Yk G k sc (.Assign [.Name y yp] (.ListComp elt [⟨tg, iter, ifs, 0⟩] csc pos) spos) (Qw i (WF sc csc src b t f)) := by
 intro cx ok fn ρ S s r Q E out
 rw [exec_Assign_Name_used _ _ _ _ (hsw cx.env ok.hsc)]
 refine wpAny_bind (wpAny_standAt (wpAny_bind ?_))
 rw [arm_evalThenUse_ListComp]
 refine wpAny_bind ?_
 unfold Qw at out
 refine Vu (use := some (assign (.Name y yp) cx.env)) hi ha hxs ht he hok hs ok r (fun q => by rw [q] at out; exact out) fun ds ρ₁ L C S' h' tk e r' x' v' fr ns hSC hCL hCl hC0 hCB hCs hff hCv => ?_
 rw [e] at out
 show wpAny G.M cx.A (assign (.Name y yp) cx.env (.ref L)) _ E _
 rw [PySem.assign_Name]
 refine wpAny_bind (wpAny_standAt (wpAny_bindName ?_))
 refine FC (s := { s with heap := h', toks := tk }) (ok.mono (Nat.zero_le _)) fn.toFnCx r' hy hk (.inl hcl) (t := .ow true (.list ds)) fr fun h₂ t₂ r₂ x₂ k₂ f₂ => ?_
 obtain ⟨m, n⟩ := ns
 have n₂ : h₂.Ns C m := n.sameBut k₂ hCl
 refine ⟨m, n₂, fun h₃ m₃ n₃ k₃ => ?_⟩
 obtain ⟨oC, es, ep, eC, dC, _⟩ := n₂
 obtain ⟨oC', _, _, eC', _⟩ := n₃
 obtain ⟨r₃, x₃, v₃⟩ := r₂.butDict eC dC hSC hCl hC0 hCB hff (fun j z m ks ds' hz hj q => by
  have hj' := O4 hj (by intro q; cases q)
  refine hCv j z m ks ds' hz hj' (f₂ z _ ?_ q)
  rintro rfl
  obtain ⟨p1, e1⟩ := List.getElem?_eq_some_iff.mp hy
  obtain ⟨p2, e2⟩ := List.getElem?_eq_some_iff.mp hz
  cases (List.getElem_inj ok.nodup).mp (e1.trans e2.symm)
  by_cases hl : i < ρ₁.length
  ·rw [List.getElem?_set_self hl] at hj; cases hj
  ·rw [List.getElem?_eq_none (by rw [List.length_set]; omega)] at hj; cases hj) k₃ ⟨_, eC'⟩
 exact wpAny_pure (wpAny_pure (out .next h₃ t₂ S' r₃ trivial ((x'.trans x₂).trans x₃) fun z => by cases z))
end
end Mine
end

section
set_option Elab.async false
set_option maxRecDepth 100000
namespace Mine
open PySem PyProof.Rows
structure Gr (G : Gd) : Prop where
 ok : G.Ok
 tr : ∃ p loose, W.TopRead p loose G.mg G.mb G.B
 mbb : ∀ x : Str, x ≠ "__name__" → G.mb x = bootBuiltins x
noncomputable def Xr (K : W.Frag) (a : Addr) : FuncData := match K.lookup a with | some ⟨_, _, .func fd, _⟩ => fd | _ => default
noncomputable def Uo (K : W.Frag) (a : Addr) : Bool := match K.lookup a with | some ⟨_, _, .func _, _⟩ => true | _ => false
noncomputable def Y2 (fd : FuncData) : List Stmt := match fd.body with | .stmts b => b | _ => []
set_option tactic.hygienic true in
theorem BK {G : Gd} (g : Gr G) {a : Addr} (h : Uo G.K a = true) : ∃ fo, G.B.get? a = some fo ∧ fo.data = .func (Xr G.K a) := by
 unfold Uo at h
 unfold Xr
 split at h
 ·rename_i c d fd sl e
  exact ⟨_, g.ok.K _ _ e, rfl⟩
 ·cases h
section
variable {G : Gd} {k : Nat} {sc : Scope} {x : Str} {p : Pos}
theorem nV (i : Nat) (hx : (Qf sc)[i]? = some x := by kernel_rfl) (hd : (x == ("__debug__" : Str)) = false := by kernel_rfl) (hn : (x == ("__classdict__" : Str)) = false := by kernel_rfl) : Sim G k sc (.Name x p) (XJ i) := DJ hx hd hn
theorem nB (i : Nat) (hx : (Qf sc)[i]? = some x := by kernel_rfl) (hd : (x == ("__debug__" : Str)) = false := by kernel_rfl) (hn : (x == ("__classdict__" : Str)) = false := by kernel_rfl) : Qg G k sc (.Name x p) (eOp i) := O0 hx hd hn
theorem gF (g : Gr G) (a : Addr) (e : W.nsIn G.K mainGlobals x = some (some (.ref a)) := by kernel_rfl) (ho : (G.K.lookup a).isSome = true := by kernel_rfl) (hx : sc.names.lookup x = some .globalImplicit := by kernel_rfl) (hd : (x == ("__debug__" : Str)) = false := by kernel_rfl) :
  Sim G k sc (.Name x p) (Qd (.glob (.ref a))) := by
 obtain ⟨o, ho⟩ := Option.isSome_iff_exists.mp ho
 exact Cz g.ok hx (W.mg_of g.ok.K g.ok.g e) (fun b q => by cases q; exact ⟨o, g.ok.K _ _ ho⟩) hd
theorem gI (g : Gr G) (i : Int) (t : Tok) (e : W.nsIn G.K mainGlobals x = some (some (.int i t)) := by kernel_rfl) (hx : sc.names.lookup x = some .globalImplicit := by kernel_rfl) (hd : (x == ("__debug__" : Str)) = false := by kernel_rfl) :
  Sim G k sc (.Name x p) (Qd (.int i)) := OT g.ok hx (W.mg_of g.ok.K g.ok.g e) hd
theorem gB (g : Gr G) (v : Value) (e : W.nsIn G.K mainGlobals x = some none := by kernel_rfl) (hv : bootBuiltins x = some v := by kernel_rfl) (hn : (x == ("__name__" : Str)) = false := by kernel_rfl) (hl : v.isRef = false := by rfl) (hx : sc.names.lookup x = some .globalImplicit := by kernel_rfl) (hd : (x == ("__debug__" : Str)) = false := by kernel_rfl) :
  Sim G k sc (.Name x p) (Qd (.glob v)) :=
 Bp g.ok hx (W.mg_none_of g.ok.K g.ok.g e) ((g.mbb x (by simpa using hn)).trans hv) (fun a q => by subst q; cases hl) hd
variable {args : List Expr} {pos : Pos}
theorem cF (g : Gr G) (a : Addr) {k' : Nat} {F : List D → FOut} {fa : AEnv → Res (List Bv)} (hF : Zt G k' (.ref a) F) (ha : YH G k sc args fa) (hk : k' ≤ k := by decide) (hf : Uo G.K a = true := by kernel_rfl) (e : W.nsIn G.K mainGlobals x = some (some (.ref a)) := by kernel_rfl) (ho : (G.K.lookup a).isSome = true := by kernel_rfl) (hx : sc.names.lookup x = some .globalImplicit := by kernel_rfl) (hd : (x == ("__debug__" : Str)) = false := by kernel_rfl) (hu : args.all QU = true := by kernel_rfl) :
  Sim G k sc (.Call (.Name x p) args [] pos) (QF F fa) := by
 obtain ⟨fo, h1, h2⟩ := BK g hf
 exact D0 (gF g a e ho hx hd) h1 h2 hF hk ha hu
theorem cB (g : Gr G) (v : Value) {F : List D → Option T} {fa : AEnv → Res (List Bv)} (hop : OpN G (fun vs => call v vs []) F) (ha : YH G k sc args fa) (e : W.nsIn G.K mainGlobals x = some none := by kernel_rfl) (hv : bootBuiltins x = some v := by kernel_rfl) (hn : (x == ("__name__" : Str)) = false := by kernel_rfl) (hl : v.isRef = false := by rfl) (hx : sc.names.lookup x = some .globalImplicit := by kernel_rfl) (hd : (x == ("__debug__" : Str)) = false := by kernel_rfl) (hu : args.all QU = true := by kernel_rfl) :
  Sim G k sc (.Call (.Name x p) args [] pos) (QQ F fa) := Du (gB g v e hv hn hl hx hd) (fun a q => by subst q; cases hl) hop ha hu
theorem aC {e : Expr} {rest : List Expr} {f : AEnv → Res Bv} {h : AEnv → Res (List Bv)} (he : Qg G k sc e f) (hr : YH G k sc rest h) (hs : QU e = true := by kernel_rfl) : YH G k sc (e :: rest) (Qa f h) := B3 he hr hs
theorem vC {e : Expr} {rest : List Expr} {f : AEnv → Res T} {h : AEnv → Res (List D)} (he : Sim G k sc e f) (hr : Oa G k sc rest h) (hs : QU e = true := by kernel_rfl) : Oa G k sc (e :: rest) (QI f h) := Cc he hr hs
theorem V8 {l r : Expr} {op : CmpOp} {f h : AEnv → Res Bv} {F : D → D → Option T} (hl : Qg G k sc l f) (hr : Qg G k sc r h) (hop : Op2 G (compareOp op) F) (hm : behindInMarks op r = false := by kernel_rfl) : Sim G k sc (.Compare l [op] [r] pos) (Qp F f h) := VB hl hr hop hm
theorem Yw {l r : Expr} {op : CmpOp} {f h : AEnv → Res Bv} {F : D → D → Option T} (hl : Qg G k sc l f) (hr : Qg G k sc r h) (hop : Op2 G (compareOp op) F) (hm : behindInMarks op r = false := by kernel_rfl) : YD G k sc (.Compare l [op] [r] pos) (Xj F f h) := OK hl hr hop hm
theorem chT {l m r : Expr} {op op' : CmpOp} {f g h : AEnv → Res Bv} {F F' : D → D → Option T} (hl : Qg G k sc l f) (hm : Qg G k sc m g) (hr : Qg G k sc r h) (hop : Op2 G (compareOp op) F) (hop' : Op2 G (compareOp op') F') (hb : behindInMarks op' r = false := by kernel_rfl) : YD G k sc (.Compare l [op, op'] [m, r] pos) (ZU F F' f g h) := Cs hl hm hr hop hop' hb
theorem ZE {fn : Expr} {f : AEnv → Res Bv} (h : Qg G k sc (.Call fn args [] pos) f) : YD G k sc (.Call fn args [] pos) (Xi f) := DU h fun _ _ => rfl
theorem sub {value slice : Expr} {f g : AEnv → Res Bv} (hl : Qg G k sc value f) (hr : Qg G k sc slice g) (hs : ∀ o i, subscripted slice false o i = operate [o, i] (getItem o i) := by intro _ _; rfl) : Sim G k sc (.Subscript value slice pos) (Qp QZ f g) := OS hl hr hs
theorem asg {value : Expr} {f : AEnv → Res T} (i : Nat) (h : Sim G k sc value f) (hx : (Qf sc)[i]? = some x := by kernel_rfl) (hk : (sc.names.lookup x == some .local || sc.names.lookup x == some .cell) = true := by kernel_rfl) (hcl : Xb x = false := by kernel_rfl) (hs : ∀ env : Env, swapsWith value (some (.Name x p)) pos.line env = pure false := by intro _; rfl) : Yk G k sc (.Assign [.Name x p] value pos) (Qw i f) :=
 Bm h hx (by simpa using hk) hcl fun env _ => hs env
theorem EQ (i : Nat) (hx : (Qf sc)[i]? = some x := by kernel_rfl) (hd : (x == ("__debug__" : Str)) = false := by kernel_rfl) (hn : (x == ("__classdict__" : Str)) = false := by kernel_rfl) : Yk G k sc (.Return (some (.Name x p)) pos) (Ym i) := K7 hx hd hn
theorem exM {e : Expr} {f : AEnv → Res T} (h : Wj G k sc e f) (hs : ∀ env : Env, swapsWith e none pos.line env = pure false := by intro _; rfl) : Yk G k sc (.Expr e pos) (ZN (Qc f)) := BV h hs
theorem ES {apos : Pos} {e : Expr} {f : AEnv → Res T} (i : Nat) (he : Wj G k sc e f) (hx : (Qf sc)[i]? = some x := by kernel_rfl) (hd : (x == ("__debug__" : Str)) = false := by kernel_rfl) (hn : (x == ("__classdict__" : Str)) = false := by kernel_rfl) (hu : ∀ env, backTo pos (starEach [e] env) = [(false, eval e env)] := by intro _; rfl) (hline : (apos.endLine == pos.line) = true := by rfl) : Wj G k sc (.Call (.Attribute (.Name x p) "append" apos) [e] [] pos) (ZT i f) := BW he hx hd hn hu hline
theorem Gb {ip : Pos} {ix value : Expr} {f : AEnv → Res Bv} {g : AEnv → Res T} (i : Nat) (hf : Qg G k sc ix f) (hg : Sim G k sc value g) (hx : (Qf sc)[i]? = some x := by kernel_rfl) (hd : (x == ("__debug__" : Str)) = false := by kernel_rfl) (hn : (x == ("__classdict__" : Str)) = false := by kernel_rfl)
  (hs : ∀ env : Env, swapsWithSole [.Subscript (.Name x p) ix ip] value pos.line env = pure false := by intro _; rfl) (hw : ∀ env : Env, swappedStores [.Subscript (.Name x p) ix ip] value env = pure none := by intro _; rfl) : Yk G k sc (.Assign [.Subscript (.Name x p) ix ip] value pos) (ZJ i f g) := VZ hf hg hx hd hn (fun env _ => hs env) hw
theorem tgN (i : Nat) (hx : (Qf sc)[i]? = some x := by kernel_rfl) : Kt G sc (.Name x p) [x] (Xl i) := O9 hx
theorem Gw {y : Str} {py tp : Pos} {n : Nat} (i j : Nat) (hx : (Qf sc)[i]? = some x := by kernel_rfl) (hy : (Qf sc)[j]? = some y := by kernel_rfl) : Kt G sc (.Tuple [.Name x p, .Name y py] n tp) [x, y] (Je [i, j]) := UV (.cons hx (.cons hy .nil))
theorem OV {tg iter : Expr} {body : List Stmt} {src : AEnv → Res (List D)} {xs : List Str} {b : D → AEnv → Option AEnv} {f : AEnv → Res Fl} (hi : OH G k sc tg iter src) (ht : Kt G sc tg xs b) (hb : YI G k sc body f) (hxs : (xs.all fun x => sc.names.lookup x == some .local || sc.names.lookup x == some .cell) = true := by kernel_rfl)
  (hs : ∀ env x, foldedSetIterable iter env x = pure x := by intro _ _; rfl) : Yk G k sc (.For tg iter body [] pos) (UX src b f) := DX hi ht (fun x hx => by simpa using List.all_eq_true.mp hxs x hx) hb hs
theorem enu (g : Gr G) {es : List Expr} {n : Nat} {tp : Pos} {e : Expr} {f : AEnv → Res T} (h : Sim G k sc e f) (hq : G.quiet = true := by rfl) (he : W.nsIn G.K mainGlobals ("enumerate" : Str) = some none := by kernel_rfl) (hx : sc.names.lookup ("enumerate" : Str) = some .globalImplicit := by kernel_rfl) (hu : QU e = true := by kernel_rfl) : OH G k sc (.Tuple es n tp) (.Call (.Name "enumerate" p) [e] [] pos) (Vi f) :=
 Df hq (gB g (.type "enumerate") he (by kernel_rfl) (by kernel_rfl) rfl hx (by kernel_rfl)) h hu
end
noncomputable def Ec (sc csc : Scope) : List (Option Nat) := (Qf (Qu csc sc)).map fun x => if csc.names.lookup x == some .free then (Qf sc).findIdx? (· == x) else none
noncomputable def JF (ρ : AEnv) : List (Option Nat) → Option AEnv
 | [] => some []
 | none :: r => (JF ρ r).map (none :: ·)
 | some i :: r => match ρ[i]? with
  | some (some t) => (JF ρ r).map (some t.weak :: ·)
  | _ => none
noncomputable def Wr (sc csc : Scope) : Bool := csc.names.all fun x => x.2 != .free || ((Qf sc).findIdx? (· == x.1)).isSome
theorem VV {sc csc : Scope} {ρ : AEnv} (hf : Wr sc csc = true) : ∀ (l : List Str), Km sc csc ρ l = JF ρ (l.map fun x => if csc.names.lookup x == some .free then (Qf sc).findIdx? (· == x) else none)
 | [] => rfl
 | x :: r => by
  rw [Km, List.map_cons, VV hf r]
  unfold Uk
  by_cases hx : (csc.names.lookup x == some .free) = true
  ·rw [if_pos hx, if_pos hx]
   have := List.all_eq_true.mp hf (x, .free) (Z5 (beq_iff_eq.mp hx))
   simp only [bne_self_eq_false, Bool.false_or] at this
   obtain ⟨i, hi⟩ := Option.isSome_iff_exists.mp this
   rw [hi]
   simp only
   generalize List.map _ r = l'
   rw [JF]
   cases hr : ρ[i]? with
   | none => cases hq : JF ρ l' <;> rfl
   | some u =>
    cases u with
    | none => cases hq : JF ρ l' <;> rfl
    | some t => cases hq : JF ρ l' <;> rfl
  ·rw [if_neg hx, if_neg hx, JF]
   generalize List.map _ r = l'
   cases hq : JF ρ l' <;> rfl
noncomputable def Ja (cap : List (Option Nat)) (src : AEnv → Res (List D)) (b : D → AEnv → Option AEnv) (t : AEnv → Res Bool) (f : AEnv → Res T) : AEnv → Res T := fun ρ => match JF ρ cap with
 | none => .stuck
 | some _ => match src ρ with
  | .ok ds ρ₁ => (match JF ρ₁ cap with
   | some ρ₀ => (match Yr b t f ρ₀ ds [] with
    | some out => .ok (.ow true (.list out)) ρ₁
    | none => .stuck)
   | none => .stuck)
  | _ => .stuck
theorem Vq {sc csc : Scope} {cap : List (Option Nat)} {src : AEnv → Res (List D)} {b : D → AEnv → Option AEnv} {t : AEnv → Res Bool} {f : AEnv → Res T} (hf : Wr sc csc = true) (hc : Ec sc csc = cap) : WF sc csc src b t f = Ja cap src b t f := by
 funext ρ
 unfold WF Ja
 rw [VV hf, show (Qf (Qu csc sc)).map _ = cap from hc]
 cases JF ρ cap with
 | none => rfl
 | some _ =>
  simp only
  cases src ρ with
  | ok ds ρ₁ =>
   simp only
   rw [VV hf, show (Qf (Qu csc sc)).map _ = cap from hc]
   all_goals rfl
  | exc _ _ => rfl
  | stuck => rfl
section
variable {G : Gd} {k : Nat} {sc csc : Scope} {tg iter elt : Expr} {ifs : List Expr} {pos : Pos} {xs : List Str} {src : AEnv → Res (List D)} {b : D → AEnv → Option AEnv} {t : AEnv → Res Bool} {f : AEnv → Res T}
theorem lc (cap : List (Option Nat)) (hi : OH G k sc tg iter src) (ha : Kt G (Qu csc sc) tg xs b) (ht : Kf G k (Qu csc sc) ifs t) (he : Sim G k (Qu csc sc) elt f) (hxs : (xs.all fun x => csc.names.lookup x == some .local || csc.names.lookup x == some .cell) = true := by kernel_rfl) (hok : Jb sc csc = true := by kernel_rfl) (hfd : Wr sc csc = true := by kernel_rfl) (hc : Ec sc csc = cap := by kernel_rfl)
  (hs : ∀ env x, foldedSetIterable iter env x = pure x := by intro _ _; rfl) : Sim G k sc (.ListComp elt [⟨tg, iter, ifs, 0⟩] csc pos) (Ja cap src b t f) := by
 rw [← Vq hfd hc]
 exact VQ hi ha (fun x hx => by simpa using List.all_eq_true.mp hxs x hx) ht he hok hs
theorem CB {y : Str} {yp : Pos} {l : Nat} (hk : sc.kind = .function) (hy : sc.names.lookup y = some .local) (hl : (yp.line == pos.line) = true) (hn : (csc.names.any fun (n, k) => n == y && (k == .local || k == .cell)) = false) (env : Env) (he : env.scope = sc) : swapsWith (.ListComp elt [⟨tg, iter, ifs, 0⟩] csc pos) (some (.Name y yp)) l env = pure true := by
 show (pure (env.blockKind == .function && env.kindOf y == some .local && yp.line == pos.line && !(csc.names.any fun (n, k) => n == y && (k == .local || k == .cell))) : Sem Bool) = _
 have h1 : env.blockKind = .function := by
  unfold Env.blockKind
  rw [he, hk]
  rfl
 have h2 : env.kindOf y = some .local := by unfold Env.kindOf; rw [he]; exact hy
 rw [h1, h2, hl, hn]
 rfl
theorem E0 {y : Str} {yp spos : Pos} (i : Nat) (cap : List (Option Nat)) (hi : OH G k sc tg iter src) (ha : Kt G (Qu csc sc) tg xs b) (ht : Kf G k (Qu csc sc) ifs t) (he : Sim G k (Qu csc sc) elt f) (hxs : (xs.all fun x => csc.names.lookup x == some .local || csc.names.lookup x == some .cell) = true := by kernel_rfl) (hok : Jb sc csc = true := by kernel_rfl) (hfd : Wr sc csc = true := by kernel_rfl) (hc : Ec sc csc = cap := by kernel_rfl)
  (hs : ∀ env x, foldedSetIterable iter env x = pure x := by intro _ _; rfl) (hy : (Qf sc)[i]? = some y := by kernel_rfl) (hk : sc.names.lookup y = some .local := by kernel_rfl) (hcl : Xb y = false := by kernel_rfl) (hkk : sc.kind = .function := by kernel_rfl) (hl : (yp.line == pos.line) = true := by rfl) (hn : (csc.names.any fun (n, k) => n == y && (k == .local || k == .cell)) = false := by kernel_rfl) :
  Yk G k sc (.Assign [.Name y yp] (.ListComp elt [⟨tg, iter, ifs, 0⟩] csc pos) spos) (Qw i (Ja cap src b t f)) := by
 rw [← Vq hfd hc]
 exact Ko hi ha (fun x hx => by simpa using List.all_eq_true.mp hxs x hx) ht he hok hs hy hk hcl (CB hkk hk hl hn)
end
noncomputable def OB (n : Nat) (is : List Nat) (ds : List D) : AEnv := (List.range n).map fun j => ((is.zip ds).lookup j).map T.sh
noncomputable def ZL (n : Nat) (is : List Nat) (f : AEnv → Res Fl) (ds : List D) : FOut := if ds.length = is.length then Em (f (OB n is ds)) else .stuck
noncomputable def YL (vn ps : List Str) : List Nat := ps.map fun p => (vn.findIdx? (· == p)).getD vn.length
theorem Om {vn : List Str} (nd : vn.Nodup) {j : Nat} {x : Str} (hx : vn[j]? = some x) : ∀ (ps : List Str) (ds : List D), (ps.all fun p => vn.contains p) = true → (ps.zip ds).lookup x = ((YL vn ps).zip ds).lookup j
 | [], _, _ => rfl
 | p :: ps, [], _ => by simp [YL]
 | p :: ps, d :: ds, h => by
  rw [List.all_cons, Bool.and_eq_true_iff] at h
  have hp : p ∈ vn := by simpa using h.1
  obtain ⟨i, hi⟩ : ∃ i, vn.findIdx? (· == p) = some i := by
   cases q : vn.findIdx? (· == p) with
   | some i => exact ⟨i, rfl⟩
   | none => exact absurd (List.findIdx?_eq_none_iff.mp q p hp) (by simp)
  obtain ⟨h1, h2, _⟩ := List.findIdx?_eq_some_iff_getElem.mp hi
  have h2 : vn[i] = p := beq_iff_eq.mp h2
  have e : YL vn (p :: ps) = i :: YL vn ps := by unfold YL; rw [List.map_cons, hi]; rfl
  rw [e, List.zip_cons_cons, List.zip_cons_cons, List.lookup_cons, List.lookup_cons, Om nd hx ps ds h.2]
  obtain ⟨j1, j2⟩ := List.getElem?_eq_some_iff.mp hx
  by_cases hxp : x = p
  ·have : j = i := (List.getElem_inj nd).mp (j2.trans (hxp.trans h2.symm))
   simp [hxp, this]
  ·have hji : ¬ j = i := fun q => hxp (by subst q; exact j2.symm.trans h2)
   have a1 : (x == p) = false := by simpa using hxp
   have a2 : (j == i) = false := by simpa using hji
   rw [a1, a2]
theorem Bh {sc : Scope} {ps : List Str} {ds : List D} (nd : (Qf sc).Nodup) (hp : (ps.all fun p => (Qf sc).contains p) = true) : Z9 sc ps ds = OB (Qf sc).length (YL (Qf sc) ps) ds := by
 unfold Z9 OB
 apply List.ext_getElem?
 intro j
 rw [List.getElem?_map, List.getElem?_map]
 cases hx : (Qf sc)[j]? with
 | none => rw [List.getElem?_eq_none (by rw [List.length_range]; exact List.getElem?_eq_none_iff.mp hx)]; rfl
 | some x =>
  rw [List.getElem?_range (List.getElem?_eq_some_iff.mp hx).1]
  simp only [Option.map_some]
  rw [Om nd hx ps ds hp]
noncomputable def Xv (fd : FuncData) : List Str := fd.params.args.map (·.arg)
noncomputable def Wv (fd : FuncData) : Bool := (match fd.body with | .stmts _ => true | _ => false) && fd.closure.isEmpty && fd.globals == mainGlobals && fd.builtins == builtinsNs && Um (Qf fd.scope) && Um (Xv fd) &&
 (Xv fd).all (fun p => (Qf fd.scope).contains p && (fd.scope.names.lookup p == some .local || fd.scope.names.lookup p == some .cell)) && fd.scope.kind == .function && !fd.scope.isCoroutine && !fd.scope.isGenerator
set_option tactic.hygienic true in
theorem fnI {G : Gd} (g : Gr G) {k : Nat} (a : Addr) (n : Nat) (is : List Nat) {f : AEnv → Res Fl} (h : YI G k (Xr G.K a).scope (Y2 (Xr G.K a)) f) (hbind : ∀ vs : List Value, vs.length = (Xv (Xr G.K a)).length → bindArgs (Xr G.K a) ⟨vs, []⟩ = pure ((Xv (Xr G.K a)).zip vs))
  (hf : Uo G.K a = true := by kernel_rfl) (hc : W.codeIn G.K (Xr G.K a).code (Xr G.K a).qualname = true := by kernel_rfl) (hpl : Wv (Xr G.K a) = true := by kernel_rfl) (hn : (Qf (Xr G.K a).scope).length = n := by kernel_rfl) (hi : YL (Qf (Xr G.K a).scope) (Xv (Xr G.K a)) = is := by kernel_rfl) :
  Zt G (k + 1) (.ref a) (ZL n is f) := by
 obtain ⟨fo, h1, h2⟩ := BK g hf
 unfold Wv at hpl
 simp only [Bool.and_eq_true, beq_iff_eq, Bool.not_eq_true'] at hpl
 obtain ⟨⟨⟨⟨⟨⟨⟨⟨⟨p1, p2⟩, p3⟩, p4⟩, p5⟩, p6⟩, p7⟩, p8⟩, p9⟩, p10⟩ := hpl
 have p7' : ∀ x ∈ Xv (Xr G.K a), (Qf (Xr G.K a).scope).contains x = true ∧ ((Xr G.K a).scope.names.lookup x = some .local ∨ (Xr G.K a).scope.names.lookup x = some .cell) := fun x hx => by
  have := List.all_eq_true.mp p7 x hx
  simpa using this
 have hb : (Xr G.K a).body = .stmts (Y2 (Xr G.K a)) := by
  unfold Y2
  split at p1
  ·rename_i b e; rw [e]
  ·cases p1
 have := FX g.ok (ps := Xv (Xr G.K a)) h1 h2 (W.codeRec_of g.ok.K hc) hb (by simpa using p2) p3 p4 hbind (fun x hx => (p7' x hx).2) (Ze p6) (Ze p5) p8 p9 p10 h
 have e : EG (Xr G.K a).scope (Xv (Xr G.K a)) f = ZL n is f := by
  funext ds
  unfold EG ZL
  rw [Bh (Ze p5) (List.all_eq_true.mpr fun x hx => (p7' x hx).1), hn, hi]
  have hl : is.length = (Xv (Xr G.K a)).length := by rw [← hi]; unfold YL; simp
  rw [hl]
 rw [e] at this
 exact this
theorem OM {P : List Value → Prop} {n : Nat} (H : ∀ a, P [a]) (hn : n = 1 := by kernel_rfl) (vs : List Value) (h : vs.length = n) : P vs := by
 subst hn
 obtain ⟨a, rfl⟩ := List.length_eq_one_iff.mp h
 exact H a
theorem Ks {P : List Value → Prop} {n : Nat} (H : ∀ a b, P [a, b]) (hn : n = 2 := by kernel_rfl) (vs : List Value) (h : vs.length = n) : P vs := by
 subst hn
 cases vs with
 | nil => cases h
 | cons a vs => exact OM (P := fun vs => P (a :: vs)) (H a) rfl vs (Nat.succ.inj h)
theorem F8 {P : List Value → Prop} {n : Nat} (H : ∀ a b c, P [a, b, c]) (hn : n = 3 := by kernel_rfl) (vs : List Value) (h : vs.length = n) : P vs := by
 subst hn
 cases vs with
 | nil => cases h
 | cons a vs => exact Ks (P := fun vs => P (a :: vs)) (H a) rfl vs (Nat.succ.inj h)
theorem FP {P : List Value → Prop} {n : Nat} (H : ∀ a b c d, P [a, b, c, d]) (hn : n = 4 := by kernel_rfl) (vs : List Value) (h : vs.length = n) : P vs := by
 subst hn
 cases vs with
 | nil => cases h
 | cons a vs => exact F8 (P := fun vs => P (a :: vs)) (H a) rfl vs (Nat.succ.inj h)
theorem Fw {P : List Value → Prop} {n : Nat} (H : ∀ a b c d e, P [a, b, c, d, e]) (hn : n = 5 := by kernel_rfl) (vs : List Value) (h : vs.length = n) : P vs := by
 subst hn
 cases vs with
 | nil => cases h
 | cons a vs => exact FP (P := fun vs => P (a :: vs)) (H a) rfl vs (Nat.succ.inj h)
theorem Gl {P : List Value → Prop} {n : Nat} (H : ∀ a b c d e f, P [a, b, c, d, e, f]) (hn : n = 6 := by kernel_rfl) (vs : List Value) (h : vs.length = n) : P vs := by
 subst hn
 cases vs with
 | nil => cases h
 | cons a vs => exact Fw (P := fun vs => P (a :: vs)) (H a) rfl vs (Nat.succ.inj h)
end Mine
end

section
set_option Elab.async false
set_option maxRecDepth 100000
namespace Mine
open PySem PyProof.Rows
section
variable {prog : Program} {w : World} {A : Around} {E : Value → Shared → Prop} {s : Shared}
end
end Mine
end

section
set_option Elab.async false
set_option maxRecDepth 100000
namespace Mine
open PySem PyProof.Rows
end Mine
end

section
set_option Elab.async false
set_option maxRecDepth 100000
namespace Mine
open PySem PyProof.Rows
section
variable {prog : Program} {w : World} {A : Around} {E : Value → Shared → Prop} {s : Shared}
end
section
variable {G : Gd} {A : Around} {tg : Expr}
end
end Mine
end

section
set_option Elab.async false
set_option maxRecDepth 100000
namespace Mine
open PySem PyProof.Rows
end Mine
end

section
set_option Elab.async false
set_option maxRecDepth 100000
namespace Mine
open PySem PyProof.Rows PySem.Spec
section
variable {prog : Program} {w : World} {A : Around} {E : Value → Shared → Prop} {s : Shared}
end
end Mine
end

section
set_option Elab.async false
set_option maxRecDepth 100000
namespace Mine
open PySem
noncomputable def Xd (k : List Int) : List (List Int) → Option Nat
 | [] => none
 | x :: r => if x = k then some 0 else (Xd k r).map (· + 1)
theorem Oq {k : List Int} : ∀ {ks : List (List Int)}, k ∉ ks → Xd k ks = none
 | [], _ => rfl
 | x :: r, h => by
  rw [List.mem_cons, not_or] at h
  rw [Xd, if_neg (Ne.symm h.1), Oq h.2]; rfl
set_option tactic.hygienic true in
theorem UA {k : List Int} : ∀ {ks : List (List Int)} {j : Nat}, Xd k ks = some j → ks[j]? = some k
 | x :: r, j, h => by
  rw [Xd] at h
  split at h
  ·rename_i e; cases h; rw [e]; rfl
  ·obtain ⟨i, hi, rfl⟩ := Option.map_eq_some_iff.mp h
   rw [List.getElem?_cons_succ]; exact UA hi
theorem KU {k : List Int} : ∀ {ks : List (List Int)} {j : Nat}, ks.Nodup → ks[j]? = some k → Xd k ks = some j
 | x :: r, 0, _, h => by cases h; rw [Xd, if_pos rfl]
 | x :: r, j + 1, nd, h => by
  rw [List.getElem?_cons_succ] at h
  have hm := List.mem_of_getElem? h
  rw [Xd, if_neg (by rintro rfl; exact (List.nodup_cons.mp nd).1 hm), KU (List.nodup_cons.mp nd).2 h]; rfl
set_option tactic.hygienic true in
theorem OY {k : List Int} {ks : List (List Int)} (h : Xd k ks = none) : k ∉ ks := fun hm => by
 induction ks with
 | nil => cases hm
 | cons x r ih =>
  rw [Xd] at h
  split at h
  ·cases h
  ·rename_i hx
   rcases List.mem_cons.mp hm with e | hm
   ·exact hx e.symm
   ·exact ih (by cases q : Xd k r with | none => rfl | some j => rw [q] at h; cases h) hm
noncomputable def WO : List D → Option (List Int)
 | [] => some []
 | .int i :: ds => (WO ds).map (i :: ·)
 | _ :: _ => none
noncomputable def JX : D → Option (List Int)
 | .tup ds => WO ds
 | _ => none
theorem O1 : ∀ {ds : List D} {k : List Int}, WO ds = some k → ds = k.map .int
 | [], k, h => by cases h; rfl
 | d :: ds, k, h => by
  cases d with
  | int i =>
   rw [WO] at h
   obtain ⟨r, hr, rfl⟩ := Option.map_eq_some_iff.mp h
   rw [List.map_cons, ← O1 hr]
  | _ => cases h
theorem D5 {d : D} {k : List Int} (h : JX d = some k) : d = Uh k := by
 cases d with
 | tup ds => exact congrArg D.tup (O1 h)
 | _ => cases h
theorem K1 : ∀ k : List Int, WO (k.map .int) = some k
 | [] => rfl
 | i :: k => by rw [List.map_cons, WO, K1 k]; rfl
theorem Ds (k : List Int) : JX (Uh k) = some k := K1 k
section
variable {prog : Program} {w : World} {S : Addr → Prop} {h : Heap}
theorem Co {k : List Int} : ∀ {vs : List Value}, RVs S h vs (k.map .int) → ItemsAre (intKind prog w) k vs := by
 induction k with
 | nil => intro vs q; cases q; exact .nil
 | cons i k ih =>
  intro vs q
  cases q with
  | cons q r =>
   cases q with
   | int i t => exact .cons (by show Value.isInt i (.int i t) = true; simp [Value.isInt]) (ih r)
theorem VF {k : List Int} {a : Addr} (q : RV S h (.ref a) (Uh k)) : IsTupleKey (intKind prog w) h k a := by
 unfold Uh at q
 cases q with
 | tup e hc hd r => exact ⟨_, _, _, e, hc, hd, Co r⟩
end
section
variable {prog : Program} {w : World} {A : Around} {E : Value → Shared → Prop} {s : Shared} {S : Addr → Prop} {d a : Addr} {k : List Int} {ks : List (List Int)} {ds : List D}
theorem Ek {Q : Int → Shared → Prop} (hu : A.units < cLine) (hk : RV S s.heap (.ref a) (Uh k)) (h : Q (UF k) { s with toks := s.toks + (k.length + 1) }) : wpAny (model prog w) A (pyHash (.ref a)) Q E s :=
 wpAny_pyHash_tuple (knd := intKind prog w) hu (VF hk) h
theorem Ea {Q : Option Nat → Shared → Prop} (hu : A.units < cLine) (hk : RV S s.heap (.ref a) (Uh k)) (q : XI S s.heap d ks ds) (h : Q (Xd k ks) s) : wpAny (model prog w) A (dictFind d (.ref a) (UF k)) Q E s := by
 obtain ⟨o, es, n, xs, e, hc, hd, he, hks, nd, hr, rv, hm⟩ := q
 refine wpAny_dictFind_heap (knd := tupleKind (intKind prog w)) (xs := xs) hu (VF hk) e hd he (fun x hx => VF (hr x hx)) (by rw [hks]; exact nd) (fun hno => ?_) (fun j p hj => ?_)
 ·rw [Oq] at h
  ·exact h
  ·intro hin
   rw [← hks] at hin
   obtain ⟨x, hx, rfl⟩ := List.mem_map.mp hin
   obtain ⟨j, hj⟩ := List.getElem?_of_mem hx
   exact hno j x.2 hj
 ·rw [KU nd (j := j) (by rw [← hks, List.getElem?_map, hj]; rfl)] at h
  exact h
theorem XI.sys (q : XI S s.heap d ks ds) : (d == sysModules) = false := by
 obtain ⟨_, _, _, _, _, _, _, _, _, _, _, _, hm⟩ := q; exact hm
theorem XI.typeIs (q : XI S s.heap d ks ds) : s.TypeIs (.ref d) "dict" := by
 obtain ⟨o, _, _, _, e, hc, _⟩ := q; exact ⟨o, e, hc.1⟩
theorem VA (f : Array DictEntry → Array DictEntry) (o : Obj) : (Obj.mapDict f o).dict = o.dict := by
 obtain ⟨c, d, dt, sl⟩ := o
 cases dt <;> rfl
theorem WZ (f : Array DictEntry → Array DictEntry) (o : Obj) : (Obj.mapDictKeys f o).dict = o.dict := by
 obtain ⟨c, d, dt, sl⟩ := o
 cases dt <;> rfl
theorem XI.val (q : XI S s.heap d ks ds) {j : Nat} (hj : Xd k ks = some j) : ∃ o es n v b d', s.heap.get? d = some o ∧ o.data = .dict es n ∧ es[j]? = some ⟨UF k, .ref b, v⟩ ∧ ds[j]? = some d' ∧ RV S s.heap v d' := by
 obtain ⟨o, es, n, xs, e, hc, hd, he, hks, nd, hr, rv, hm⟩ := q
 have h1 := UA hj
 rw [← hks, List.getElem?_map] at h1
 obtain ⟨x, hx, rfl⟩ := Option.map_eq_some_iff.mp h1
 have hl : (xs.map (·.2.2))[j]? = some x.2.2 := by rw [List.getElem?_map, hx]; rfl
 have hlt : j < ds.length := by rw [← rv.length, List.length_map]; exact (List.getElem?_eq_some_iff.mp hx).1
 obtain ⟨v, hv, r⟩ := rv.get (k := j) (List.getElem?_eq_getElem hlt)
 rw [hl] at hv; cases hv
 exact ⟨o, es, n, x.2.2, x.2.1, _, e, hd, by rw [← Array.getElem?_toList, he, List.getElem?_map, hx]; rfl, List.getElem?_eq_getElem hlt, r⟩
theorem Fq {Q : Option Value → Shared → Prop} (hu : A.units < cLine) (hk : RV S s.heap (.ref a) (Uh k)) (q : XI S s.heap d ks ds)
  (hn : Xd k ks = none → Q none { s with toks := s.toks + (k.length + 1) }) (hs : ∀ j v d', Xd k ks = some j → ds[j]? = some d' → RV S s.heap v d' → Q (some v) { s with toks := s.toks + (k.length + 1) }) : wpAny (model prog w) A (dictGet d (.ref a)) Q E s := by
 unfold dictGet
 try with_reducible refine wpAny_holding ?_
 refine wpAny_bind (Ek hu hk (wpAny_bind (Ea (s := { s with toks := s.toks + (k.length + 1) }) hu hk q ?_)))
 cases hj : Xd k ks with
 | none => exact wpAny_pure (hn hj)
 | some j =>
  obtain ⟨o, es, n, v, b, d', e1, e2, e3, e4, e5⟩ := q.val hj
  refine wpAny_bind (wpAny_dictEntries (s := { s with toks := s.toks + (k.length + 1) }) e1 e2 ?_)
  rw [e3]
  exact wpAny_pure (hs j v d' hj e4 e5)
theorem Gj {Q : Value → Shared → Prop} (hu : A.units + 1 < cLine) (hk : RV S s.heap (.ref a) (Uh k)) (q : XI S s.heap d ks ds) (h : Q (.bool (Xd k ks).isSome) { s with toks := s.toks + (k.length + 1) }) : wpAny (model prog w) A (compareOp .In (.ref a) (.ref d)) Q E s := by
 have hm := q.sys
 show wpAny _ _ (do return .bool (← contains (.ref d) (.ref a))) Q E s
 refine wpAny_bind ?_
 unfold contains
 try with_reducible refine wpAny_holding ?_
 refine wpAny_bind (wpAny_specialOf q.typeIs slot_dict_contains.lookup ?_)
 show wpAny _ _ (if (some (Value.builtin "dict.__contains__") == some Value.none) = true then _ else _) _ E s
 rw [if_neg (by rw [beq_builtin_none]; exact Bool.false_ne_true)]
 refine wpAny_bind (wpAny_callSpecialUnlessNone?_slot (name := Str.ofString "__contains__") q.typeIs slot_dict_contains
  (wpAny_call_entry slot_dict_contains q.typeIs entry_dict_contains ?_ (args_dict_contains _ _)))
 show wpAny _ _ (dictGet d (.ref a) >>= _) _ _ s
 refine wpAny_bind (Fq (A := A.in1) hu hk q (fun hj => ?_) fun j v d' hj _ _ => ?_)
 ·rw [hj] at h
  show wpAny _ _ (Builtin.Dict.pendingKey? d (.ref a) >>= _) _ _ _
  exact wpAny_bind (wpAny_pendingKey_other hm (wpAny_pure ⟨_, rfl, wpAny_truthy_bool (wpAny_pure h)⟩))
 ·rw [hj] at h
  show wpAny _ _ (ret (.bool true)) _ _ _
  exact wpAny_pure ⟨_, rfl, wpAny_truthy_bool (wpAny_pure h)⟩
theorem FB {j : Nat} {Q : Value → Shared → Prop} (hu : A.units + 1 < cLine) (hk : RV S s.heap (.ref a) (Uh k)) (q : XI S s.heap d ks ds) (hj : Xd k ks = some j) (h : ∀ v d', ds[j]? = some d' → RV S s.heap v d' → Q v { s with toks := s.toks + (k.length + 1) }) : wpAny (model prog w) A (getItem (.ref d) (.ref a)) Q E s := by
 unfold getItem
 try with_reducible refine wpAny_holding ?_
 refine wpAny_bind (wpAny_sequenceKey q.typeIs (by decide) ?_)
 refine wpAny_bind (wpAny_callSpecial?_slot (name := Str.ofString "__getitem__") q.typeIs slot_dict_getitem
  (wpAny_call_entry slot_dict_getitem q.typeIs entry_dict_getitem ?_ (args_dict_getitem _ _)))
 show wpAny _ _ (dictGet d (.ref a) >>= _) _ _ s
 refine wpAny_bind (Fq (A := A.in1) hu hk q (fun q => by rw [hj] at q; cases q) fun j' v d' hj' e1 e2 => ?_)
 rw [hj] at hj'; cases hj'
 exact wpAny_pure ⟨v, rfl, wpAny_pure (h v d' e1 e2)⟩
noncomputable def Bf (k : List Int) (ks : List (List Int)) : List (List Int) := match Xd k ks with
 | some _ => ks
 | none => ks ++ [k]
noncomputable def Bg (k : List Int) (v : D) (ks : List (List Int)) (ds : List D) : List D := match Xd k ks with
 | some j => ds.set j v
 | none => ds ++ [v]
theorem Wa {α β : Type} {f : α → β} {g : α → α} {g' : β → β} (hg : ∀ x, f (g x) = g' (f x)) (l : List α) (j : Nat) : (l.modify j g).map f = (l.map f).modify j g' := by
 apply List.ext_getElem?
 intro i
 rw [List.getElem?_map, List.getElem?_modify, List.getElem?_modify, List.getElem?_map]
 cases l[i]? with
 | none => rfl
 | some x => simp only [Option.map_eq_map, Option.map_some]; split <;> simp [hg]
theorem Cd {α : Type} (l : List α) (j : Nat) (v : α) : l.modify j (fun _ => v) = l.set j v := by
 apply List.ext_getElem?
 intro i
 rw [List.getElem?_modify, List.getElem?_set]
 by_cases h : j = i
 ·subst h
  by_cases hl : j < l.length
  ·simp [hl]
  ·simp [hl]
 ·simp [h]
structure DStored (S : Addr → Prop) (h : Heap) (d : Addr) (ks' : List (List Int)) (vs' : List Value) (h' : Heap) : Prop where
 but : Heap.SameBut d h h'
 obj : ∃ o es n, h.get? d = some o ∧ o.data = .dict es n
 obj' : ∃ o' es' n', h'.get? d = some o' ∧ o'.data = .dict es' n'
 at_ : ∀ ds', Ext S h S h' → RVs S h vs' ds' → XI S h' d ks' ds'
theorem EK {v : Value} (hk : RV S s.heap (.ref a) (Uh k)) (q : XI S s.heap d ks ds) {o : Obj} {es : Array DictEntry} {n : Nat} (e : s.heap.get? d = some o) (hd : o.data = .dict es n) :
  (Xd k ks = none → ∃ vs, RVs S s.heap vs ds ∧ DStored S s.heap d (ks ++ [k]) (vs ++ [v]) (s.heap.update d (Obj.mapDictKeys (·.push ⟨UF k, .ref a, v⟩)))) ∧
  (∀ j, Xd k ks = some j → ∃ vs, RVs S s.heap vs ds ∧ DStored S s.heap d ks (vs.set j v) (s.heap.update d (Obj.mapDict (·.modify j fun e => { e with val := v })))) := by
 obtain ⟨o', es', n', xs, e', hc, hd', he, hks, nd, hr, rv, hm⟩ := q
 rw [e] at e'; cases e'
 rw [hd] at hd'; cases hd'
 refine ⟨fun hj => ⟨_, rv, ?_⟩, fun j hj => ⟨_, rv, ?_⟩⟩
 ·have e₁ : (s.heap.update d (Obj.mapDictKeys (·.push ⟨UF k, .ref a, v⟩))).get? d = _ := Heap.get?_update_self _ e (Obj.isFreed_of_dict (Obj.data_mapDictKeys hd _))
  refine ⟨Heap.SameBut.update .., ⟨o, es, n, e, hd⟩, ⟨_, _, _, e₁, Obj.data_mapDictKeys hd _⟩, fun ds' x rv' => ⟨_, _, _, xs ++ [(k, a, v)], e₁, ⟨(Obj.cls_mapDictKeys _ _).trans hc.1, (WZ _ _).trans hc.2⟩, Obj.data_mapDictKeys hd _, ?_, ?_, ?_, ?_, ?_, hm⟩⟩
  ·rw [Array.toList_push, he, List.map_append]; rfl
  ·rw [List.map_append, hks]; rfl
  ·rw [List.nodup_append]
   refine ⟨nd, by simp, ?_⟩
   rintro x hx y hy rfl
   rw [List.mem_singleton.mp hy] at hx
   exact OY hj hx
  ·intro y hy
   rcases List.mem_append.mp hy with hy | hy
   ·exact (hr y hy).ext x
   ·rw [List.mem_singleton.mp hy]; exact hk.ext x
  ·rw [List.map_append]; exact rv'.ext x
 ·have e₁ : (s.heap.update d (Obj.mapDict (·.modify j fun e => { e with val := v }))).get? d = _ := Heap.get?_update_self _ e (Obj.isFreed_of_dict (Obj.data_mapDict hd _))
  refine ⟨Heap.SameBut.update .., ⟨o, es, n, e, hd⟩, ⟨_, _, _, e₁, Obj.data_mapDict hd _⟩, fun ds' x rv' => ⟨_, _, _, xs.modify j (fun y => (y.1, y.2.1, v)), e₁, ⟨(Obj.cls_mapDict _ _).trans hc.1, (VA _ _).trans hc.2⟩, Obj.data_mapDict hd _, ?_, ?_, nd, ?_, ?_, hm⟩⟩
  ·rw [Array.toList_modify, he]
   exact (Wa (f := FW) (fun _ => rfl) xs j).symm
  ·rw [Wa (f := fun y : List Int × Addr × Value => y.1) (g := fun y => (y.1, y.2.1, v)) (g' := id) (fun _ => rfl), hks]
   apply List.ext_getElem?
   intro i
   rw [List.getElem?_modify]
   cases ks[i]? <;> simp
  ·intro y hy
   obtain ⟨i, hi⟩ := List.getElem?_of_mem hy
   rw [List.getElem?_modify] at hi
   cases hx : xs[i]? with
   | none => rw [hx] at hi; cases hi
   | some z =>
    rw [hx] at hi
    have := (hr z (List.mem_of_getElem? hx)).ext x
    simp only [Option.map_eq_map, Option.map_some, Option.some.injEq] at hi
    split at hi <;> (subst hi; exact this)
  ·rw [Wa (f := fun y : List Int × Addr × Value => y.2.2) (g := fun y => (y.1, y.2.1, v)) (g' := fun _ => v) (fun _ => rfl), Cd]
   exact rv'.ext x
theorem FV {v : Value} {Q : Unit → Shared → Prop} (hu : A.units + 1 < cLine) (hk : RV S s.heap (.ref a) (Uh k)) (q : XI S s.heap d ks ds) (hz : ks.length ≤ 1000000)
  (hQ : ∀ h' vs, RVs S s.heap vs ds → DStored S s.heap d (Bf k ks) (match Xd k ks with | some j => vs.set j v | none => vs ++ [v]) h' → Q () { s with heap := h', toks := s.toks + (k.length + 1) }) : wpAny (model prog w) A (setItem (.ref d) (.ref a) v) Q E s := by
 unfold setItem
 try with_reducible refine wpAny_holding ?_
 refine wpAny_bind (wpAny_sequenceKey q.typeIs (by decide) ?_)
 refine wpAny_bind (wpAny_callSpecial?_slot (name := Str.ofString "__setitem__") q.typeIs slot_dict_setitem
  (wpAny_call_entry slot_dict_setitem q.typeIs entry_dict_setitem ?_ (args_dict_setitem _ _ _)))
 show wpAny _ _ (Builtin.Dict.notOrdered "__setitem__" ⟨[.ref d, .ref a, v], []⟩ >>= _) _ _ s
 refine wpAny_bind (wpAny_notOrdered_dict q.typeIs ?_)
 show wpAny _ _ (dictSet d (.ref a) v >>= _) _ _ s
 refine wpAny_bind ?_
 unfold dictSet
 try with_reducible refine wpAny_holding ?_
 refine wpAny_bind (Ek (A := A.in1) hu hk ?_)
 unfold dictSetHashed
 try with_reducible refine wpAny_holding ?_
 refine wpAny_bind (Ea (A := A.in1) (s := { s with toks := s.toks + (k.length + 1) }) hu hk q ?_)
 obtain ⟨o, es, n, xs, e, hc, hd, he, hks, nd, hr, rv, hm⟩ := id q
 obtain ⟨f1, f2⟩ := EK (s := { s with toks := s.toks + (k.length + 1) }) (v := v) hk q e hd
 unfold Bf at hQ
 cases hj : Xd k ks with
 | none =>
  rw [hj] at hQ
  obtain ⟨vs, r1, r2⟩ := f1 hj
  refine wpAny_bind (wpAny_rule (wpAny_updateDictKeys (hz := ?_) (s := { s with toks := s.toks + (k.length + 1) }) e hd (wpAny_pure ⟨.none, rfl, wpAny_pure (hQ _ vs r1 r2)⟩)))
  rw [← Array.length_toList, he, List.length_map, sizeLine_eq]
  have : xs.length = ks.length := by rw [← hks, List.length_map]
  omega
 | some j =>
  rw [hj] at hQ
  obtain ⟨vs, r1, r2⟩ := f2 j hj
  exact wpAny_bind (wpAny_rule (wpAny_bind (wpAny_updateDict (s := { s with toks := s.toks + (k.length + 1) }) e hd (wpAny_point (wpAny_pure ⟨.none, rfl, wpAny_pure (hQ _ vs r1 r2)⟩)))))
end
end Mine
end

section
set_option Elab.async false
set_option maxRecDepth 100000
namespace Mine
open PySem PyProof.Rows
noncomputable def Ys (ρ : AEnv) (i : Nat) : Option (List (List Int) × List D) := match ρ[i]? with
 | some (some (.ow _ (.dict ks ds))) => some (ks, ds)
 | _ => none
set_option tactic.hygienic true in
theorem W0 {ρ : AEnv} {i : Nat} {p : List (List Int) × List D} (h : Ys ρ i = some p) : ∃ m, ρ[i]? = some (some (.ow m (.dict p.1 p.2))) := by
 unfold Ys at h
 split at h
 ·rename_i m ks ds e; cases h; exact ⟨m, e⟩
 ·cases h
noncomputable def Jr (ρ : AEnv) (i : Nat) : Option (List (List Int) × List D) := match ρ[i]? with
 | some (some (.ow true (.dict ks ds))) => if ks.length ≤ 1000000 then some (ks, ds) else none
 | _ => none
set_option tactic.hygienic true in
theorem OF {ρ : AEnv} {i : Nat} {p : List (List Int) × List D} (h : Jr ρ i = some p) : ρ[i]? = some (some (.ow true (.dict p.1 p.2))) ∧ p.1.length ≤ 1000000 := by
 unfold Jr at h
 split at h
 ·rename_i ks ds e
  split at h
  ·rename_i hl; cases h; exact ⟨e, hl⟩
  ·cases h
 ·cases h
section
variable {G : Gd} {cx : Cx} {sc : Scope} {ρ : AEnv} {S : Addr → Prop} {h : Heap} {k : Nat}
theorem Rel.dict {i : Nat} {x : Str} {m : Bool} {ks : List (List Int)} {ds : List D} (r : Rel G cx sc ρ S h) (hx : (Qf sc)[i]? = some x) (e : ρ[i]? = some (some (.ow m (.dict ks ds)))) :
  ∃ a, Var cx.env h x (.ref a) ∧ XI S h a ks ds ∧ cx.env.locals ≠ a ∧ ¬ S a := by
 obtain ⟨v, hv, a, rfl, n1, ow, n2⟩ := r.vars i x _ hx e
 refine ⟨a, hv, ow, ?_, n1⟩
 rintro rfl
 exact r.dok i x m ks ds hx e hv
theorem RB.row {v : Value} {d : D} {kk : List Int} (q : RB S h v d) (e : JX d = some kk) : ∃ a, v = .ref a ∧ RV S h (.ref a) (Uh kk) := by
 rw [D5 e] at q
 have q := q.rv fun ds e => by cases e
 unfold Uh at q ⊢
 cases q with
 | tup e hc hd r => exact ⟨_, rfl, .tup e hc hd r⟩
theorem CxOk.units (ok : CxOk G cx sc k) : cx.A.units + 1 < cLine := by
 have := ok.room.2
 show cx.A.units + 1 < 9900
 omega
set_option tactic.hygienic true in
theorem DW {δ : Type} {s : Shared} {l : Expr} {x : Str} {p : Pos} {f : AEnv → Res Bv} {i : Nat} {n : Value → Value → Sem δ} {β : Type} {J : (Addr → Prop) → Heap → δ → β → Prop} {K : List Int → List (List Int) → List D → AEnv → Res β} (hl : Qg G k sc l f) (hx : (Qf sc)[i]? = some x) (hd : (x == ("__debug__" : Str)) = false) (hn : (x == ("__classdict__" : Str)) = false) (ok : CxOk G cx sc k) (rel : Rel G cx sc ρ S s.heap)
  (h : ∀ ρ' S' h' tk a d kk ks ds, Rel G cx sc ρ' S' h' → RV S' h' (.ref a) (Uh kk) → XI S' h' d ks ds → Qq G cx sc true (n (.ref a) (.ref d)) S' { s with heap := h', toks := tk } J (K kk ks ds ρ')) :
  Qq G cx sc true (do let a ← eval l cx.env; let b ← holding [a] (eval (.Name x p) cx.env); n a b) S s J ((f ρ).bind fun b ρ₁ => match b.get ρ₁, Ys ρ₁ i with
   | some y, some q => (match JX y with | some kk => K kk q.1 q.2 ρ₁ | none => .stuck)
   | _, _ => .stuck) := by
 refine Qq.bind (hl cx ok ρ S s rel) fun b ρ₁ va h₁ t₁ S₁ _ rel₁ ja x₁ v₁ => ?_
 split
 ·rename_i y q hy hq
  split
  ·rename_i kk hk
   obtain ⟨m, e⟩ := W0 hq
   obtain ⟨a, rfl, rv⟩ := (Z6.rb ja rel₁ hy).row hk
   obtain ⟨d, hv, da, _, _⟩ := rel₁.dict hx e
   intro Q E out
   refine wpAny_bind (wpAny_holding (wpAny_Name (XY (ok.mono (Nat.zero_le _)) hv hn rfl ?_) hd))
   exact h ρ₁ S₁ h₁ t₁ a d kk q.1 q.2 rel₁ rv da Q E out
  ·exact Qq.stuck
 ·exact Qq.stuck
set_option tactic.hygienic true in
theorem Ep {δ : Type} {s : Shared} {l : Expr} {x : Str} {p : Pos} {f : AEnv → Res Bv} {i : Nat} {n : Value → Value → Sem δ} {β : Type} {J : (Addr → Prop) → Heap → δ → β → Prop} {K : List Int → List (List Int) → List D → AEnv → Res β} (hl : Qg G k sc l f) (hx : (Qf sc)[i]? = some x) (hd : (x == ("__debug__" : Str)) = false) (hn : (x == ("__classdict__" : Str)) = false) (ok : CxOk G cx sc k) (rel : Rel G cx sc ρ S s.heap)
  (h : ∀ ρ' S' h' tk a d kk ks ds, Rel G cx sc ρ' S' h' → RV S' h' (.ref a) (Uh kk) → XI S' h' d ks ds → Qq G cx sc true (n (.ref d) (.ref a)) S' { s with heap := h', toks := tk } J (K kk ks ds ρ')) :
  Qq G cx sc true (do let b ← eval (.Name x p) cx.env; let a ← holding [b] (eval l cx.env); n b a) S s J (match Ys ρ i with
   | none => .stuck
   | some _ => (f ρ).bind fun b ρ₁ => match b.get ρ₁, Ys ρ₁ i with
    | some y, some q => (match JX y with | some kk => K kk q.1 q.2 ρ₁ | none => .stuck)
    | _, _ => .stuck) := by
 split
 ·exact Qq.stuck
 ·rename_i q₀ hq₀
  obtain ⟨m₀, e₀⟩ := W0 hq₀
  obtain ⟨d₀, hv₀, _, _, _⟩ := rel.dict hx e₀
  intro Q E out
  refine wpAny_bind (wpAny_Name (XY (ok.mono (Nat.zero_le _)) hv₀ hn rfl ?_) hd)
  refine (Qq.bind (J' := J) (k := fun a => n (.ref d₀) a) (Qq.holding (hl cx ok ρ S s rel)) fun b ρ₁ va h₁ t₁ S₁ _ rel₁ ja x₁ v₁ => ?_) Q E out
  split
  ·rename_i y q hy hq
   split
   ·rename_i kk hk
    obtain ⟨m, e⟩ := W0 hq
    obtain ⟨a, rfl, rv⟩ := (Z6.rb ja rel₁ hy).row hk
    obtain ⟨d, hv, da, _, _⟩ := rel₁.dict hx e
    cases Var.inj hv (v₁ rfl x _ hv₀)
    exact h ρ₁ S₁ h₁ t₁ a _ kk q.1 q.2 rel₁ rv da
   ·exact Qq.stuck
  ·exact Qq.stuck
noncomputable def C3 (neg : Bool) (f : AEnv → Res Bv) (i : Nat) : AEnv → Res Bool := fun ρ => (f ρ).bind fun b ρ₁ => match b.get ρ₁, Ys ρ₁ i with
 | some y, some q => (match JX y with | some kk => .ok ((Xd kk q.1).isSome != neg) ρ₁ | none => .stuck)
 | _, _ => .stuck
noncomputable def Vd (i : Nat) (f : AEnv → Res Bv) : AEnv → Res T := fun ρ => match Ys ρ i with
 | none => .stuck
 | some _ => (f ρ).bind fun b ρ₁ => match b.get ρ₁, Ys ρ₁ i with
  | some y, some q => (match JX y with
   | some kk => (match Xd kk q.1 with
    | some j => (match q.2[j]? with | some d => .ok (.sh d) ρ₁ | none => .stuck)
    | none => .stuck)
   | none => .stuck)
  | _, _ => .stuck
theorem DS {s : Shared} {a d : Addr} {kk : List Int} {ks : List (List Int)} {ds : List D} (ok : CxOk G cx sc k) (rel : Rel G cx sc ρ S s.heap) (rv : RV S s.heap (.ref a) (Uh kk)) (da : XI S s.heap d ks ds) :
  Qq G cx sc true (compareOp .In (.ref a) (.ref d)) S s (fun S' h' v t => Jp cx S' h' v t) (.ok (.sh (.bool ((Xd kk ks).isSome != false))) ρ) := fun Q E out => by
 refine Gj ok.units rv da ?_
 have := out (.bool ((Xd kk ks).isSome != false)) s.heap (s.toks + (kk.length + 1)) S rel (.bool _) (Ext.refl ..) fun _ => Qv.refl _ _
 rw [Bool.bne_false] at this; exact this
end
section
variable {G : Gd} {k : Nat} {sc : Scope}
theorem BO {l : Expr} {x : Str} {p pos : Pos} {f : AEnv → Res Bv} {i : Nat} (hl : Qg G k sc l f) (hx : (Qf sc)[i]? = some x := by kernel_rfl) (hd : (x == ("__debug__" : Str)) = false := by kernel_rfl) (hn : (x == ("__classdict__" : Str)) = false := by kernel_rfl) (hm : behindInMarks .In (.Name x p) = false := by kernel_rfl) : YD G k sc (.Compare l [.In] [.Name x p] pos) (C3 false f i) := by
 intro cx ok ρ S s rel
 rw [isTrue_Compare1, markedBehindIn_of_false hm]
 exact DW (K := fun kk ks _ ρ₁ => .ok ((Xd kk ks).isSome != false) ρ₁) hl hx hd hn ok rel fun ρ' S' h' tk a d kk ks ds r rv da => Qq.standAt (UY (vs := fun c => [c]) (Qq.operate (vs := [.ref a, .ref d]) (DS (s := { s with heap := h', toks := tk }) ok r rv da)))
set_option tactic.hygienic true in
theorem Bj {l : Expr} {x : Str} {p pos : Pos} {f : AEnv → Res Bv} {i : Nat} (hl : Qg G k sc l f) (hx : (Qf sc)[i]? = some x := by kernel_rfl) (hd : (x == ("__debug__" : Str)) = false := by kernel_rfl) (hn : (x == ("__classdict__" : Str)) = false := by kernel_rfl) (hs : ∀ o i, subscripted l false o i = operate [o, i] (getItem o i) := by intro _ _; rfl) :
  Sim G k sc (.Subscript (.Name x p) l pos) (Vd i f) := by
 intro cx ok ρ S s rel
 show Qq G cx sc true (do let a ← eval (.Name x p) cx.env; let b ← holding [a] (eval l cx.env); standAt pos; subscriptTail (.Name x p) l a b) S s _ _
 refine Ep (K := fun kk ks ds ρ₁ => match Xd kk ks with | some j => (match ds[j]? with | some d => Res.ok (T.sh d) ρ₁ | none => .stuck) | none => .stuck) hl hx hd hn ok rel fun ρ' S' h' tk a d kk ks ds r rv da => ?_
 refine Qq.standAt ?_
 intro Q E out
 split at out
 ·rename_i j hj
  refine tail_any (s := { s with heap := h', toks := tk }) da.typeIs slot_dict_getitem.lookup ?_ (hs _ _)
  refine FB (s := { s with heap := h', toks := tk }) ok.units rv da hj fun v d' e1 e2 => ?_
  rw [e1] at out
  exact out v h' _ S' r e2 (Ext.refl ..) fun _ => Qv.refl _ _
 ·exact out.elim
theorem W8 {o : Obj} {es : Array DictEntry} {n : Nat} (h : o.data = .dict es n) : ¬ Imm o := by
 rintro (⟨_, vs, m, q⟩ | ⟨vs, q⟩) <;> (rw [h] at q; cases q)
theorem Rel.stored {cx : Cx} {ρ : AEnv} {S : Addr → Prop} {h h' : Heap} {i : Nat} {x : Str} {ks ks' : List (List Int)} {ds ds' : List D} {a : Addr} {vs : List Value} (r : Rel G cx sc ρ S h) (bh : G.B.StaysIn cx.h₀) (hx : (Qf sc)[i]? = some x) (e : ρ[i]? = some (some (.ow true (.dict ks ds)))) (hv : Var cx.env h x (.ref a)) (q : DStored S h a ks' vs h') (rv : RVs S h vs ds') :
  Rel G cx sc (ρ.set i (some (.ow true (.dict ks' ds')))) S h' ∧ Ext S h S h' ∧ Qv cx.env h h' := by
 obtain ⟨but, ⟨o, es, n, e1, e2⟩, ⟨o', es', n', e3, e4⟩, at_⟩ := q
 obtain ⟨a', hv', _, hl, _⟩ := r.dict hx e
 cases Var.inj hv hv'
 exact r.turn bh hx e hv e1 (W8 e2) (by rw [e2]; intro v q; cases q) hl but e3 (fun _ => ⟨es', n', e4⟩) (fun _ => ⟨ks, ds, rfl⟩) fun x' => at_ ds' x' rv
theorem RVs.dset {S : Addr → Prop} {h : Heap} {vs : List Value} {ds : List D} {v : Value} {d : D} {kk : List Int} {ks : List (List Int)} (r : RVs S h vs ds) (q : RV S h v d) : RVs S h (match Xd kk ks with | some j => vs.set j v | none => vs ++ [v]) (Bg kk d ks ds) := by
 unfold Bg
 cases Xd kk ks with
 | some j => exact RVs.set q r j
 | none => exact RVs.append (.cons q .nil) r
noncomputable def K4 (i : Nat) (f : AEnv → Res Bv) (g : AEnv → Res T) : AEnv → Res Fl := fun ρ => (g ρ).bind fun t ρ₁ => match Jr ρ₁ i with
 | none => .stuck
 | some _ => (f ρ₁).bind fun b ρ₂ => match b.get ρ₂, Jr ρ₂ i with
  | some y, some q => (match JX y with
   | some kk => .ok .next (ρ₂.set i (some (.ow true (.dict (Bf kk q.1) (Bg kk t.val q.1 q.2)))))
   | none => .stuck)
  | _, _ => .stuck
set_option tactic.hygienic true in
theorem Vl {x : Str} {p ip pos : Pos} {ix value : Expr} {i : Nat} {f : AEnv → Res Bv} {g : AEnv → Res T} (hf : Qg G k sc ix f) (hg : Sim G k sc value g) (hx : (Qf sc)[i]? = some x := by kernel_rfl) (hd : (x == ("__debug__" : Str)) = false := by kernel_rfl) (hn : (x == ("__classdict__" : Str)) = false := by kernel_rfl)
  (hs : ∀ env : Env, env.scope = sc → swapsWithSole [.Subscript (.Name x p) ix ip] value pos.line env = pure false := by intro _ _; rfl) (hw : ∀ env : Env, swappedStores [.Subscript (.Name x p) ix ip] value env = pure none := by intro _; rfl) :
  Yk G k sc (.Assign [.Subscript (.Name x p) ix ip] value pos) (K4 i f g) := by
 intro cx ok fn ρ S s r Q E out
 rw [exec_Assign]
 refine wpAny_bind (wpAny_standAt ?_)
 rw [hs cx.env ok.hsc]
 refine wpAny_bind (wpAny_pure ?_)
 rw [if_neg (by decide)]
 refine wpAny_bind ((hg cx ok ρ S s r).shared _ _ ?_)
 unfold K4 at out
 cases hgv : g ρ with
 | stuck => rw [hgv] at out; exact out.elim
 | exc C ρ₁ => rw [hgv] at out; exact out
 | ok t ρ₁ =>
  rw [hgv] at out
  simp only [Res.bind] at out
  intro v h₁ t₁ S₁ r₁ j₁ x₁ v₁
  rw [hw]
  refine wpAny_bind (wpAny_pure ?_)
  show wpAny _ _ (do assignAll v [assign (.Subscript (.Name x p) ix ip) cx.env]; pure .next) Q E _
  refine wpAny_bind ?_
  show wpAny _ _ (assign (.Subscript (.Name x p) ix ip) cx.env v) _ E _
  rw [arm_assign_Subscript]
  split at out
  ·exact out.elim
  rename_i q₀ h0
  obtain ⟨t0, l0⟩ := OF h0
  obtain ⟨a, hv, _, _, _⟩ := r₁.dict hx t0
  refine wpAny_bind (wpAny_holding (wpAny_Name (XY (ok.mono (Nat.zero_le _)) hv hn rfl ?_) hd))
  refine wpAny_bind (wpAny_holding (hf cx ok ρ₁ S₁ { s with heap := h₁, toks := t₁ } r₁ _ _ ?_))
  cases hfv : f ρ₁ with
  | stuck => rw [hfv] at out; exact out.elim
  | exc C ρ₂ => rw [hfv] at out; intro e h₂ t₂ S₂ r₂ f₂ x₂; exact out e h₂ t₂ S₂ r₂ (f₂.back x₁) (x₁.trans x₂)
  | ok b ρ₂ =>
   rw [hfv] at out
   simp only at out
   intro iv h₂ t₂ S₂ r₂ j₂ x₂ v₂
   refine wpAny_bind (wpAny_standAt ?_)
   split at out
   ·rename_i y q hy h1
    split at out
    ·rename_i kk hk
     obtain ⟨ak, rfl, rvk⟩ := (Z6.rb j₂ r₂ hy).row hk
     obtain ⟨e1, l1⟩ := OF h1
     obtain ⟨a', hv', da, _, _⟩ := r₂.dict hx e1
     cases Var.inj hv' (v₂ rfl x _ hv)
     refine wpAny_bind (wpAny_holding (FV (s := { s with heap := h₂, toks := t₂ }) ok.units rvk da l1 fun h₃ vs rvs st => ?_))
     obtain ⟨r₃, x₃, v₃⟩ := r₂.stored fn.bh hx e1 hv' st (rvs.dset (j₁.ext x₂))
     refine wpAny_release (wpAny_pure ?_)
     exact out .next _ _ S₂ r₃ trivial ((x₁.trans x₂).trans x₃) fun z => by cases z
    ·exact out.elim
   ·exact out.elim
noncomputable def CN (i : Nat) : AEnv → Res Fl := fun ρ => .ok .next (ρ.set i (some (.ow true (.dict [] []))))
theorem O6 (hG : G.Ok) {x : Str} {p ep pos : Pos} {i : Nat} (hx : (Qf sc)[i]? = some x := by kernel_rfl) (hk : sc.names.lookup x = some .local ∨ sc.names.lookup x = some .cell := by first | exact .inl (by kernel_rfl) | exact .inr (by kernel_rfl))
  (hcl : Xb x = false := by kernel_rfl) (hs : ∀ env : Env, env.scope = sc → swapsWith (.Dict [] [] ep) (some (.Name x p)) pos.line env = pure false := by intro _ _; rfl) : Yk G k sc (.Assign [.Name x p] (.Dict [] [] ep) pos) (CN i) := by
 intro cx ok fn ρ S s r Q E out
 rw [exec_Assign_Name _ _ _ _ _ (hs cx.env ok.hsc)]
 refine wpAny_bind (wpAny_standAt (wpAny_bind ?_))
 rw [eval_Dict_empty]
 refine wpAny_bind (wpAny_standAt ?_)
 unfold newDict
 refine wpAny_newObj_type ?_ (by unfold sizeOk; simp)
 have hn : s.heap.get? s.heap.objs.size = none := Heap.get?_none_of_le (Nat.le_refl _)
 have he : (s.heap.push { cls := .type "dict", data := .dict #[] }).get? s.heap.objs.size = some { cls := .type "dict", data := .dict #[] } := Heap.get?_push_size _ rfl
 have kp : ∀ b o, s.heap.get? b = some o → (s.heap.push { cls := .type "dict", data := .dict #[] }).get? b = some o := fun b o e => Heap.get?_push_of_some _ e
 have r₁ := r.keeps kp
 have hsz : 3 < s.heap.objs.size := by
  obtain ⟨o, es, ep, e, _⟩ := hG.g
  exact Heap.lt_size (r.base _ _ e)
 refine wpAny_bind (wpAny_standAt ?_)
 refine wpAny_bind (Yn (s := { s with heap := s.heap.push { cls := .type "dict", data := .dict #[] } }) (t := .ow true (.dict [] [])) (ok.mono (Nat.zero_le _)) fn r₁ hx hk (.inl hcl) ⟨_, rfl, ?_, ?_, r.keep.none hn, fun y hdy q => ?_, fun _ => ?_⟩ _ _ ?_)
 ·intro q; obtain ⟨o, e⟩ := r.sdom _ q; rw [hn] at e; cases e
 ·have hne : s.heap.objs.size ≠ sysModules := by unfold sysModules; omega
  exact ⟨_, _, _, [], he, ⟨rfl, rfl⟩, rfl, rfl, rfl, .nil, (fun x hx => by cases hx), .nil, by simpa using hne⟩
 ·obtain ⟨o, e⟩ := r.live y _ hdy (Var.of_kp (.of_keeps kp) r.ns r.cells q)
  rw [hn] at e; cases e
 ·rintro q
  obtain ⟨m, o, _, _, e, _⟩ := r.ns
  rw [← q, hn] at e; cases e
 ·intro _ h₂ t₂ S₂ r₂ _ x₂ v₂
  exact wpAny_pure (out .next h₂ t₂ S₂ r₂ trivial ((Ext.of_keeps kp).trans x₂) fun z => by cases z)
end
end Mine
end

section
set_option Elab.async false
set_option maxRecDepth 100000
namespace Mine
open PySem PyProof.Rows
theorem O3 {h : Heap} {dx : Addr} {o : Obj} {m : Str → Option Value} (hn : h.Ns dx m) (e : h.get? dx = some o) (n : Str) : W.lookIn n o = some (m n) := by
 obtain ⟨o', es, ep, e', hd, sk, hf⟩ := hn
 rw [e] at e'; cases e'
 unfold W.lookIn
 rw [hd]
 have hf := hf n
 unfold nsFind findBy at hf
 rw [← Array.find?_toList] at hf
 dsimp only
 cases q : es.toList.find? (fun e => e.key.isStr n) with
 | some en => rw [q] at hf; exact congrArg some hf
 | none =>
  rw [q] at hf
  dsimp only
  rw [if_neg]
  ·exact congrArg some hf
  ·intro hr
   obtain ⟨en, hm, hk⟩ := List.any_eq_true.mp hr
   obtain ⟨n', t, hk'⟩ := sk en (Array.mem_toList_iff.mp hm)
   unfold DictEntry.refKey at hk
   rw [hk'] at hk
   cases hk
noncomputable def KO (n : Str) : List Str → List D → Option D
 | x :: xs, d :: ds => if x = n then some d else KO n xs ds
 | _, _ => none
noncomputable def Wu : D → Bool
 | .glob _ => false
 | _ => true
set_option tactic.hygienic true in
theorem EF {S : Addr → Prop} {h : Heap} {m : Str → Option Value} {n : Str} {d : D} : ∀ {ns : List Str} {vs : List Value} {ds : List D}, ns.map m = vs.map some → RVs S h vs ds → KO n ns ds = some d → ∃ v, m n = some v ∧ RV S h v d := by
 intro ns
 induction ns with
 | nil => intro vs ds _ _ e; cases e
 | cons x xs ih =>
  intro vs ds hm rv e
  cases rv with
  | nil => cases e
  | cons q r =>
   simp only [List.map_cons, List.cons.injEq] at hm
   rw [KO] at e
   split at e
   ·rename_i hx; cases e; subst hx; exact ⟨_, hm.1, q⟩
   ·exact ih hm.2 r e
theorem RV.inst {S : Addr → Prop} {h : Heap} {v : Value} {C : Addr} {ns : List Str} {ds : List D} (q : RV S h v (.obj C ns ds)) : ∃ a dx od m vs, v = .ref a ∧ h.get? dx = some od ∧ h.Ns dx m ∧ (ns.map m = vs.map some ∧ ∀ y, y ∉ ns → m y = Option.none) ∧ RVs S h vs ds ∧ W.InstAt h a (W.instObj C dx) C (some od) := by
 cases q with
 | obj s1 s2 e n hm r =>
  obtain ⟨o, es, ep, ho, hd, rest⟩ := n
  exact ⟨_, _, o, _, _, rfl, ho, ⟨o, es, ep, ho, hd, rest⟩, hm, r, e, rfl, rfl, ho⟩
theorem RV.handed {S : Addr → Prop} {h : Heap} {v : Value} {d : D} (q : RV S h v d) (hg : Wu d = true) : W.handedIn v = true := by
 cases q <;> first | rfl | cases hg
theorem BG {K : W.Frag} {C : Addr} {o : Obj} {n : Str} {v : Value} (hc : (W.clsIn K C).any (·.hasDict) = true) (hf : W.findIn K (.ref C) n = some none) (hl : W.lookIn n o = some (some v)) : W.findObj K C (some o) n = some (.value v) := by
 obtain ⟨cd, hcd, hd⟩ := W.any_some hc
 unfold W.findObj W.ownOf
 rw [hcd, hf]
 simp [hd, hl]
section
variable {G : Gd} {k : Nat} {sc : Scope}
noncomputable def Uq (C : Addr) (n : Str) (i : Nat) : AEnv → Res T := fun ρ => match ρ[i]? with
 | some (some (.sh (.obj C' ns ds))) => if C' = C then (match KO n ns ds with
  | some d => if Wu d then .ok (.sh d) ρ else .stuck
  | none => .stuck) else .stuck
 | _ => .stuck
set_option tactic.hygienic true in
theorem Ez (hG : G.Ok) {C : Addr} {n x : Str} {p pos : Pos} {i : Nat} (hx : (Qf sc)[i]? = some x := by kernel_rfl) (hd : (x == ("__debug__" : Str)) = false := by kernel_rfl) (hn : (x == ("__classdict__" : Str)) = false := by kernel_rfl)
  (hga : W.findIn G.K (.ref C) "__getattribute__" = some (some (.builtin "object.__getattribute__")) := by kernel_rfl) (hc : (W.clsIn G.K C).any (·.hasDict) = true := by kernel_rfl) (hf : W.findIn G.K (.ref C) n = some none := by kernel_rfl) :
  Sim G k sc (.Attribute (.Name x p) n pos) (Uq C n i) := by
 intro cx ok ρ S s r Q E out
 unfold Uq at out
 split at out
 ·rename_i C' ns ds ht
  split at out
  ·rename_i hC
   subst hC
   split at out
   ·rename_i d hd'
    split at out
    ·rename_i hg
     obtain ⟨v, hv, tv⟩ := r.vars i x _ hx ht
     obtain ⟨a, dx, od, m, vs, rfl, e2, e3, e4, rv, I⟩ := RV.inst tv
     obtain ⟨u, hu, ru⟩ := EF e4.1 rv hd'
     rw [arm_eval_Attribute]
     show wpAny _ _ (eval (.Name x p) cx.env >>= _) _ _ _
     refine wpAny_bind (wpAny_Name (XY (ok.mono (Nat.zero_le _)) hv hn rfl ?_) hd)
     refine wpAny_bind (wpAny_standAt (wpAny_bind (wpAny_holding (W.get_value (hG.K.keeps r.base) I hga (BG hc hf (by rw [O3 e3 e2, hu])) (ru.handed hg) ?_))))
     exact wpAny_bind (wpAny_pure (wpAny_pure (out u s.heap _ S r ru (Ext.refl ..) fun _ => Qv.refl _ _)))
    ·exact out.elim
   ·exact out.elim
  ·exact out.elim
 ·exact out.elim
noncomputable def Ow (C : Addr) (n : Str) (i : Nat) (F : List D → FOut) (fa : AEnv → Res (List Bv)) : AEnv → Res T := fun ρ => match ρ[i]? with
 | some (some (.sh (.obj C' ns _))) => if C' = C ∧ n ∉ ns then (fa ρ).bind fun bs ρ₁ => (match XM ρ₁ (.var i :: bs) with
  | some ds => ZS (.var i :: bs) ρ₁ (F ds)
  | none => .stuck) else .stuck
 | _ => .stuck
set_option tactic.hygienic true in
theorem E7 (hG : G.Ok) {C f : Addr} {n x : Str} {p apos pos : Pos} {i k' : Nat} {fo : Obj} {fd : FuncData} {F : List D → FOut} {args : List Expr} {fa : AEnv → Res (List Bv)} (hF : Zt G k' (.ref f) F) (hk : k' ≤ k) (hfo : G.B.get? f = some fo) (hfd : fo.data = .func fd) (ha : YH G k sc args fa) (hu : args.all QU = true)
  (hx : (Qf sc)[i]? = some x) (hd : (x == ("__debug__" : Str)) = false) (hn : (x == ("__classdict__" : Str)) = false)
  (hfew : ∀ env, ((backTo pos (starEach args env)).all (fun x => !x.1) && (backToKw pos (keywordEach [] env)).all (fun x => x.1.isSome) && decide (args.length + ([] : List Keyword).length + (if ([] : List Keyword).isEmpty then 0 else 1) < 30)) = true) (hline : (apos.endLine == pos.line) = true)
  (hga : W.findIn G.K (.ref C) "__getattribute__" = some (some (.builtin "object.__getattribute__"))) (hgt : W.findIn G.K (.ref C) "__getattr__" = some none) (hf : W.findIn G.K (.ref C) n = some (some (.ref f))) (hty : W.typeIn G.K (.ref f) = some (.type "function")) :
  Sim G k sc (.Call (.Attribute (.Name x p) n apos) args [] pos) (Ow C n i F fa) := by
 intro cx ok ρ S s r Q E out
 unfold Ow at out
 split at out
 ·rename_i C' ns ds ht
  split at out
  ·rename_i hC
   obtain ⟨rfl, hns⟩ := hC
   obtain ⟨v, hv, tv⟩ := r.vars i x _ hx ht
   obtain ⟨a, dx, od, m, vs, rfl, e2, e3, e4, rv, I⟩ := RV.inst tv
   rw [arm_eval_Call]
   show wpAny _ _ (eval (.Name x p) cx.env >>= _) _ _ _
   refine wpAny_bind (wpAny_Name (XY (ok.mono (Nat.zero_le _)) hv hn rfl ?_) hd)
   refine wpAny_bind (wpAny_standAt ?_)
   have hform : methodCallForm (args.length + ([] : List Keyword).length) (backTo pos (starEach args cx.env)) (backToKw pos (keywordEach [] cx.env)) = true := hfew cx.env
   have hpos : methodCallPos true (.Name x p) cx.env apos pos = pure pos := by unfold methodCallPos; simp [hline]
   unfold methodCall
   rw [hform]
   refine wpAny_bind (wpAny_holding (W.method_fn (hG.K.keeps r.base) I hga hgt hf hty (by show Option.map _ (W.lookIn n od) = _; rw [O3 e3 e2, e4.2 n hns]; rfl) ?_))
   refine wpAny_bind (wpAny_of_eq hpos ?_)
   refine Calls.callWith_function (o := fo) (fd := fd) (X5 hu ?_)
   refine ha pos cx ok ρ S s r _ _ ?_
   cases hfa : fa ρ with
   | stuck => rw [hfa] at out; exact out.elim
   | exc C ρ' => rw [hfa] at out; exact out
   | ok bs ρ' =>
    rw [hfa] at out
    simp only [Res.bind] at out
    intro ws h₂ t₂ S₂ r₂ j₂ x₂ v₂
    refine ⟨⟨r₂.base _ _ hfo, hfd⟩, ?_⟩
    split at out
    ·rename_i es hes
     refine KW (s := { s with heap := h₂, toks := t₂ }) hF ok hk r₂ (.cons (b := .var i) ⟨x, hx, v₂ rfl x _ hv⟩ j₂) hes Q E ?_
     cases hc : ZS (.var i :: bs) ρ' (F es) with
     | stuck => rw [hc] at out; exact out
     | exc C ρ'' => rw [hc] at out; intro e h₃ t₃ S₃ r₃ f₃ x₃; exact out e h₃ t₃ S₃ r₃ (f₃.back x₂) (x₂.trans x₃)
     | ok t ρ'' => rw [hc] at out; intro w h₃ t₃ S₃ r₃ j₃ x₃ v₃; exact out w h₃ t₃ S₃ r₃ j₃ (x₂.trans x₃) fun q => (v₂ q).trans (v₃ q)
    ·exact out.elim
  ·exact out.elim
 ·exact out.elim
end
end Mine
end

section
set_option Elab.async false
set_option maxRecDepth 100000
namespace Mine
open PySem PyProof.Rows
inductive IOut where
 | ok (ds : List D)
 | exc (C : Addr)
 | stuck
noncomputable def EL : Option T → Bool
 | some (.ow _ _) => false
 | _ => true
noncomputable def Za (ρ : AEnv) : Bool := ρ.all EL
theorem Yo {ρ : AEnv} (h : Za ρ = true) {i : Nat} {m : Bool} {d : D} (e : ρ[i]? = some (some (.ow m d))) : False := by
 have := List.all_eq_true.mp h _ (List.mem_of_getElem? e)
 cases this
noncomputable def ZB : List (Str × (AEnv → Res T)) → AEnv → Option (List D)
 | [], ρ => if Za ρ then some [] else none
 | (_, f) :: fs, ρ => if Za ρ then (match f ρ with
  | .ok t ρ₁ => (ZB fs ρ₁).map (t.val :: ·)
  | _ => none) else none
theorem KV {ts : List (Str × (AEnv → Res T))} {ρ : AEnv} {ds : List D} (h : ZB ts ρ = some ds) : Za ρ = true := by
 cases ts with
 | nil => rw [ZB] at h; split at h; assumption; cases h
 | cons a ts => obtain ⟨n, f⟩ := a; rw [ZB] at h; split at h; assumption; cases h
noncomputable def CV (i₀ : Nat) (pre : AEnv → Res Fl) (ts : List (Str × (AEnv → Res T))) (x : Addr) (ρ : AEnv) : IOut := match pre ρ with
 | .ok .next ρ₁ => (match ρ₁[i₀]? with
  | some (some (.sh (.glob (.ref y)))) => if y = x then (match ZB ts ρ₁ with
   | some ds => .ok ds
   | none => .stuck) else .stuck
  | _ => .stuck)
 | .exc C _ => .exc C
 | _ => .stuck
section
variable {G : Gd} {cx : Cx} {sc : Scope} {ρ : AEnv} {S : Addr → Prop} {h h' : Heap} {k : Nat}
abbrev Cx.at (cx : Cx) (g : Heap) : Cx := { cx with h₀ := g }
theorem Rel.rebase {g g' : Heap} {dx : Addr} {o₁ o₂ : Obj} {es : Array DictEntry} {n : Nat} (r : Rel G (cx.at g) sc ρ S h) (hsh : Za ρ = true) (e₁ : h.get? dx = some o₁) (hd : o₁.data = .dict es n) (hS : ¬ S dx) (hl : dx ≠ cx.env.locals) (hB : G.B.get? dx = none) (hff : ∀ env ∈ cx.fs, env.frame ≠ some dx)
  (k : Heap.SameBut dx h h') (e₂ : h'.get? dx = some o₂) (gk : ∀ b, b ≠ dx → g'.get? b = g.get? b) (gd : g'.get? dx = some o₂) (g0 : ∃ o, g.get? dx = some o) :
  Rel G (cx.at g') sc ρ S h' ∧ Ext S h S h' ∧ Qv cx.env h h' := by
 have hi : ¬ Imm o₁ := W8 hd
 have x' : Ext S h S h' := RV.but e₁ hi hS (fun b o hb eb => (k.2 b hb).trans eb) ⟨_, e₂⟩
 have nsame : ∀ m, h.Ns cx.env.locals m → h'.Ns cx.env.locals m := fun m n => n.sameBut k (Ne.symm hl)
 have cne : ∀ y c, cx.env.cells.lookup y = some c → c ≠ dx := fun y c q => by
  rintro rfl
  obtain ⟨v, o, e'', hd'⟩ := r.cells y _ q
  rw [e₁] at e''; cases e''; rw [hd] at hd'; cases hd'
 have csame : ∀ y c, cx.env.cells.lookup y = some c → ∀ w, h.IsCell c w → h'.IsCell c w := fun y c q w n => n.sameBut k (cne y c q)
 have same : Qv cx.env h h' := fun y w q => by
  rcases q with ⟨a, m₁, b, c⟩ | ⟨a, c, b, d⟩
  ·exact .inl ⟨a, m₁, nsame m₁ b, c⟩
  ·exact .inr ⟨a, c, b, csame y c b _ d⟩
 have hf : ∀ y w, Var cx.env h' y w → Var cx.env h y w := fun y w q => by
  rcases q with ⟨a, m₁, b, c⟩ | ⟨a, c, b, d⟩
  ·obtain ⟨m₀, n₀⟩ := r.ns
   exact .inl ⟨a, m₀, n₀, by rw [(nsame m₀ n₀).agree b y]; exact c⟩
  ·obtain ⟨w₀, n₀⟩ := r.cells y c b
   exact .inr ⟨a, c, b, by rw [IsCell.inj d (csame y c b _ n₀)]; exact n₀⟩
 refine ⟨⟨fun b o q => (k.2 b (by rintro rfl; rw [hB] at q; cases q)).trans (r.base b o q), fun b o q => ?_, fun env he => ?_, let ⟨m, n⟩ := r.ns; ⟨m, nsame m n⟩, fun y c q => let ⟨w, n⟩ := r.cells y c q; ⟨w, csame y c q w n⟩, fun b q => let ⟨o, eo⟩ := r.sdom b q; x'.dom b o eo, fun b q => ?_, r.sloc, r.scell, fun y b hdy q => let ⟨o, eo⟩ := r.live y b hdy (hf y _ q); x'.dom b o eo,
  fun i y m d _ hj => (Yo hsh hj).elim, fun v q => let ⟨C, e⟩ := r.hok v q; ⟨C, e.ext x'⟩, fun j y u hy hu => ?_, fun j l y z m m' d d' u hy hz hj hl a b => (Yo hsh hj).elim, fun i y m ks ds _ hj => (Yo hsh hj).elim⟩, x', same⟩
 ·by_cases hb : b = dx
  ·subst hb
   have q : g'.get? b = some o := q
   rw [gd] at q; cases q
   exact ⟨o₂.slots, e₂, fun _ => rfl⟩
  ·have q : g'.get? b = some o := q
   rw [gk b hb] at q
   obtain ⟨sl, q₁, k₁⟩ := r.keep b o q
   exact ⟨sl, (k.2 b hb).trans q₁, k₁⟩
 ·obtain ⟨p, L, o, b, c, d, es, n, q⟩ := r.ff env he
  exact ⟨p, L, o, b, c, (k.2 L (by rintro rfl; exact hff env he b)).trans d, es, n, q⟩
 ·rcases r.sok b q with q' | q'
  ·exact .inl q'
  ·refine .inr ?_
   have q' : g.get? b = none := q'
   show g'.get? b = none
   rw [gk b (by rintro rfl; obtain ⟨o, e⟩ := g0; rw [q'] at e; cases e)]
   exact q'
 ·obtain ⟨w, hw', tw⟩ := r.vars j y u hy hu
  cases u with
  | sh d => exact ⟨w, same y w hw', RV.ext x' tw⟩
  | ow m d => exact (Yo hsh hu).elim
inductive STail (G : Gd) (k : Nat) (sc : Scope) (C : Addr) (i₀ : Nat) (sf : Str) : List Stmt → List (Str × (AEnv → Res T)) → Prop
 | nil : STail G k sc C i₀ sf [] []
 | cons {value : Expr} {p ap pos : Pos} {n : Str} {f : AEnv → Res T} {sts : List Stmt} {ts : List (Str × (AEnv → Res T))} : Sim G k sc value f → (∀ env : Env, env.scope = sc → swapsWithSole [.Attribute (.Name sf p) n ap] value pos.line env = pure false) → (∀ env : Env, swappedStores [.Attribute (.Name sf p) n ap] value env = pure none) →
   W.takerIn G.K C n = some none → STail G k sc C i₀ sf sts ts → STail G k sc C i₀ sf (.Assign [.Attribute (.Name sf p) n ap] value pos :: sts) ((n, f) :: ts)
structure TI (G : Gd) (cx : Cx) (sc : Scope) (C x dx : Addr) (sf : Str) (g : Heap) (ρ : AEnv) (S : Addr → Prop) (h : Heap) (ns : List Str) (vs : List Value) (ds : List D) (m : Str → Option Value) : Prop where
 r : Rel G (cx.at g) sc ρ S h
 gk : ∀ b, b ≠ dx → g.get? b = cx.h₀.get? b
 gd : ∃ o, g.get? dx = some o
 xi : cx.h₀.get? x = some (W.instObj C dx)
 xd : x ≠ dx
 pd : ¬ cx.P dx
 bd : G.B.get? dx = none
 ld : dx ≠ cx.env.locals
 fd : ∀ env ∈ cx.fs, env.frame ≠ some dx
 var : Var cx.env h sf (.ref x)
 nsd : h.Ns1 dx m
 hm : ns.map m = vs.map some
 hmn : ∀ y, y ∉ ns → m y = none
 rv : RVs S h vs ds
theorem Kp.ns1 {h h' : Heap} (x : Kp h h') {a : Addr} {m : Str → Option Value} (hn : h.Ns1 a m) : h'.Ns1 a m := by
 obtain ⟨o, es, ep, ho, hd, r⟩ := hn
 obtain ⟨sl, e₁, _⟩ := x a o ho
 exact ⟨_, es, ep, e₁, hd, r⟩
set_option tactic.hygienic true in
theorem EO (hG : G.Ok) {C x dx : Addr} {i₀ : Nat} {sf : Str} (hdb : (sf == ("__debug__" : Str)) = false) (hn : (sf == ("__classdict__" : Str)) = false) (hp : W.plainOver G.K C = true) (hh : (W.clsIn G.K C).any (·.hasDict) = true)
  (hs : W.findIn G.K (.ref C) "__setattr__" = some (some (.builtin "object.__setattr__"))) (ok : CxOk G cx sc k) {E : Value → Shared → Prop} {sts : List Stmt} {ts : List (Str × (AEnv → Res T))} (st : STail G k sc C i₀ sf sts ts) :
  ∀ {g : Heap} {ρ : AEnv} {S : Addr → Prop} {s : Shared} {ns : List Str} {vs : List Value} {ds ds' : List D} {m : Str → Option Value} {Q : Flow → Shared → Prop}, TI G cx sc C x dx sf g ρ S s.heap ns vs ds m → (ns ++ ts.map (·.1)).Nodup → (ns ++ ts.map (·.1)).length ≤ 100 → ZB ts ρ = some ds' →
  (∀ h' tk g' ρ' S' vs' m', TI G cx sc C x dx sf g' ρ' S' h' (ns ++ ts.map (·.1)) vs' (ds ++ ds') m' → (∀ b, S b → S' b) → Q .next { s with heap := h', toks := tk }) → wpAny G.M cx.A (execs sts cx.env) Q E s := by
 induction st with
 | nil =>
  intro g ρ S s ns vs ds ds' m Q ti nd hl ht hQ
  rw [ZB] at ht
  split at ht
  ·cases ht
   rw [execs_nil]
   rw [List.map_nil, List.append_nil, List.append_nil] at hQ
   exact wpAny_pure (hQ s.heap s.toks g ρ S vs m ti fun _ q => q)
  ·cases ht
 | cons hf hsw hw htk _ ih =>
  rename_i value p ap pos n f sts ts _
  intro g ρ S s ns vs ds ds' m Q ti nd hl ht hQ
  have hsh := KV ht
  rw [ZB, if_pos hsh] at ht
  rw [execs_cons]
  refine wpAny_bind ?_
  rw [exec_Assign]
  refine wpAny_bind (wpAny_standAt ?_)
  rw [hsw cx.env ok.hsc]
  refine wpAny_bind (wpAny_pure ?_)
  rw [if_neg (by decide)]
  have ok' : CxOk G (cx.at g) sc k := ⟨ok.hsc, ok.hk, ok.hg, ok.hb, ok.fr, ok.top, ok.hd, ok.room, ok.nodup⟩
  refine wpAny_bind ((hf (cx.at g) ok' ρ S s ti.r).shared _ _ ?_)
  cases hfv : f ρ with
  | stuck => rw [hfv] at ht; cases ht
  | exc C ρ₁ => rw [hfv] at ht; cases ht
  | ok t ρ₁ =>
   rw [hfv] at ht
   obtain ⟨ds₁, ht₁, rfl⟩ := Option.map_eq_some_iff.mp ht
   intro v h₁ t₁ S₁ r₁ j₁ x₁ v₁
   rw [hw]
   refine wpAny_bind (wpAny_pure ?_)
   show wpAny _ _ (do assignAll v [assign (.Attribute (.Name sf p) n ap) cx.env]; pure Flow.next) _ _ _
   refine wpAny_bind ?_
   show wpAny _ _ (assign (.Attribute (.Name sf p) n ap) cx.env v) _ _ _
   rw [arm_assign_Attribute]
   have hv₁ : Var cx.env h₁ sf (.ref x) := v₁ rfl sf _ ti.var
   refine wpAny_bind (wpAny_holding (wpAny_Name (XY (cx := cx) (ok.mono (Nat.zero_le _)) hv₁ hn rfl ?_) hdb))
   refine wpAny_bind (wpAny_standAt (wpAny_bind (wpAny_holding ?_)))
   have hx₁ : h₁.get? x = some (W.instObj C dx) := r₁.keep.exact ((ti.gk x ti.xd).trans ti.xi) (fun es m q => by cases q)
   have nd₁ : h₁.Ns1 dx m := by
    obtain ⟨o, es, ep, e, hd, rest⟩ := ti.nsd
    obtain ⟨o₀, e₀⟩ := ti.gd
    obtain ⟨sl, e₁, _⟩ := ti.r.keep dx o₀ e₀
    have e₁ : s.heap.get? dx = some { o₀ with slots := sl } := e₁
    rw [e] at e₁; cases e₁
    obtain ⟨sl', e₂, _⟩ := r₁.keep dx o₀ e₀
    exact ⟨_, es, ep, e₂, hd, rest⟩
   obtain ⟨od, es, ep, ed, hdd, _⟩ := id nd₁
   have I : W.InstAt h₁ x (W.instObj C dx) C (some od) := ⟨hx₁, rfl, rfl, ed⟩
   have X : G.K.In h₁ := hG.K.keeps r₁.base
   refine W.set_plain (s := { s with heap := h₁, toks := t₁ }) X I hs ?_
   refine W.osa_open (s := { s with heap := h₁, toks := t₁ + 1 }) X I hp htk fun b => ?_
   obtain ⟨cd, hc, hd'⟩ := W.any_some hh
   show wpAny _ _ (Builtin.ObjectAttr.storeInOwnDict (.ref x) (.ref C) (.str n t₁) n v b) _ _ _
   unfold Builtin.ObjectAttr.storeInOwnDict
   refine wpAny_bind (wpAny_pure (wpAny_bind (wpAny_bind (wpAny_loadPart hx₁ (wpAny_bind ((W.looks_clsIn X hc).here ?_))))))
   rw [hd']
   refine wpAny_pure (a := some dx) (wpAny_bind (wpAny_pure (wpAny_bind ?_)))
   refine wpAny_nsSet1 (s := { s with heap := h₁, toks := t₁ + 1 }) nd₁ fun h₂ n₂ k₂ => ?_
   have nn : n ∉ ns := fun q => by
    rw [List.map_cons] at nd
    exact (List.nodup_append.mp nd).2.2 n q n (.head _) rfl
   have hmn' : ∀ y, y ∉ ns ++ [n] → (if y = n then some v else m y) = none := fun y hy => by
    rw [List.mem_append, not_or] at hy
    rw [if_neg (by rintro rfl; exact hy.2 (.head _))]
    exact ti.hmn y hy.1
   obtain ⟨oD, esD, epD, hoD, hdD, hcD⟩ := n₂.count (ns := ns ++ [n]) fun y hy => by
    by_cases q : y ∈ ns ++ [n]
    ·exact q
    ·exact absurd (hmn' y q) hy
   refine wpAny_bind (wpAny_lookBehind hoD (by rw [hdD]; exact pastItsLine_dict (Nat.le_trans hcD (by
    rw [sizeLine_eq, List.length_append]
    rw [List.length_append, List.length_map, List.length_cons] at hl
    simp only [List.length_cons, List.length_nil]; omega))) ?_)
   refine wpAny_pure ?_
   show wpAny _ _ (release _ _) _ _ _
   refine wpAny_release ?_
   refine wpAny_pure ?_
   have hSd : ¬ S₁ dx := fun q => by
    rcases r₁.sok dx q with q | q
    ·exact ti.pd q
    ·obtain ⟨o, e⟩ := ti.gd
     have q : g.get? dx = none := q
     rw [q] at e; cases e
   obtain ⟨o₀, e₀⟩ := ti.gd
   have ge : (g.update dx fun _ => oD).get? dx = some oD := Heap.get?_update_self _ e₀ (Obj.isFreed_of_dict hdD)
   obtain ⟨r₂, x₂, v₂⟩ := r₁.rebase (g' := g.update dx fun _ => oD) (KV ht₁) ed hdd hSd ti.ld ti.bd ti.fd k₂ hoD (fun b hb => Heap.get?_update_other _ _ (Ne.symm hb)) ge ti.gd
   have rv₂ : RVs S₁ h₂ (vs ++ [v]) (ds ++ [t.val]) := RVs.append (.cons (j₁.ext x₂) .nil) ((ti.rv.ext x₁).ext x₂)
   have := ih (s := { s with heap := h₂, toks := t₁ + 1 + 1 }) (g := g.update dx fun _ => oD) (ns := ns ++ [n]) (vs := vs ++ [v]) (ds := ds ++ [t.val]) (m := fun y => if y = n then some v else m y) (Q := Q)
    ⟨r₂, fun b hb => (Heap.get?_update_other _ _ (Ne.symm hb)).trans (ti.gk b hb), ⟨oD, ge⟩, ti.xi, ti.xd, ti.pd, ti.bd, ti.ld, ti.fd, v₂ sf _ hv₁, n₂, by
     rw [List.map_append, List.map_append, List.map_cons, List.map_nil, if_pos rfl, ← ti.hm]
     congr 1
     exact List.map_congr_left fun y hy => if_neg (by rintro rfl; exact nn hy), hmn', rv₂⟩ (by rw [List.append_assoc]; exact nd) (by rw [List.append_assoc]; exact hl) ht₁
   refine this fun h' tk g' ρ' S' vs' m' ti' sub => ?_
   rw [List.append_assoc, List.append_assoc] at ti'
   exact hQ h' tk g' ρ' S' vs' m' ti' fun b q => sub b (x₁.sub b q)
end
end Mine
end

section
set_option Elab.async false
set_option maxRecDepth 100000
namespace Mine
open PySem PyProof.Rows
inductive SPre (G : Gd) (k : Nat) (sc : Scope) (sts : List Stmt) : List Stmt → (AEnv → Res Fl) → Prop
 | nil : SPre G k sc sts sts QB
 | cons {st : Stmt} {rest : List Stmt} {f g : AEnv → Res Fl} : Yk G k sc st f → SPre G k sc sts rest g → SPre G k sc sts (st :: rest) (Qn f g)
noncomputable def F2 (G : Gd) (cx : Cx) (sc : Scope) (sts : List Stmt) (S : Addr → Prop) (s : Shared) (Q : Flow → Shared → Prop) (E : Value → Shared → Prop) : Res Fl → Prop
 | .ok .next ρ => ∀ h' tk S', Rel G cx sc ρ S' h' → Ext S s.heap S' h' → wpAny G.M cx.A (execs sts cx.env) Q E { s with heap := h', toks := tk }
 | .exc C ρ => ∀ e h' tk S', Rel G cx sc ρ S' h' → Fly s.heap h' e C → Ext S s.heap S' h' → E (.ref e) { s with heap := h', toks := tk }
 | _ => False
set_option tactic.hygienic true in
theorem SPre.wp {G : Gd} {k : Nat} {sc : Scope} {sts body : List Stmt} {f : AEnv → Res Fl} {cx : Cx} (p : SPre G k sc sts body f) (ok : CxOk G cx sc k) (fn : FnOk G cx) : ∀ {ρ : AEnv} {S : Addr → Prop} {s : Shared} {Q : Flow → Shared → Prop} {E : Value → Shared → Prop}, Rel G cx sc ρ S s.heap → F2 G cx sc sts S s Q E (f ρ) → wpAny G.M cx.A (execs body cx.env) Q E s := by
 induction p with
 | nil => intro ρ S s Q E r out; exact out s.heap s.toks S r (Ext.refl ..)
 | cons h1 _ ih =>
  rename_i st rest f g _
  intro ρ S s Q E r out
  rw [execs_cons]
  refine wpAny_bind (h1 cx ok fn ρ S s r _ _ ?_)
  unfold Qn at out
  cases hf : f ρ with
  | stuck => rw [hf] at out; exact out.elim
  | exc C ρ₁ => rw [hf] at out; exact out
  | ok fl ρ₁ =>
   rw [hf] at out
   simp only [Res.bind] at out
   intro a h₁ t₁ S₁ r₁ j₁ x₁ _
   cases a <;> cases fl <;> first | exact j₁.elim | exact out.elim | skip
   refine ih (s := { s with heap := h₁, toks := t₁ }) r₁ ?_
   have out : F2 G cx sc sts S s Q E (g ρ₁) := out
   cases hg : g ρ₁ with
   | stuck => rw [hg] at out; exact out
   | exc C ρ₂ => rw [hg] at out; intro e h₂ t₂ S₂ r₂ f₂ x₂; exact out e h₂ t₂ S₂ r₂ (f₂.back x₁) (x₁.trans x₂)
   | ok fl ρ₂ =>
    rw [hg] at out
    cases fl <;> first | exact out | skip
    intro h₂ t₂ S₂ r₂ x₂
    exact out h₂ t₂ S₂ r₂ (x₁.trans x₂)
noncomputable def Gq (G : Gd) (ns : List Str) (dx : Addr) (S : Addr → Prop) (s : Shared) (R : Result → Shared → Prop) : IOut → Prop
 | .ok ds => ∀ h' tk S' m vs, (∀ b o, b ≠ dx → s.heap.get? b = some o → ∃ sl, h'.get? b = some { o with slots := sl } ∧ (XK o → sl = o.slots)) → G.B.StaysIn h' → (∀ b, S b → S' b) → (∀ b, S' b → S b ∨ s.heap.get? b = none) → BX S' h' → h'.Ns dx m → (ns.map m = vs.map some ∧ ∀ y, y ∉ ns → m y = none) → RVs S' h' vs ds → R (.ok (.ret .none)) { s with heap := h', toks := tk }
 | .exc C => ∀ e h' tk, Kp s.heap h' → G.B.StaysIn h' → We s.heap h' e C → R (.error (.ref e)) { s with heap := h', toks := tk }
 | .stuck => False
noncomputable def WR (G : Gd) (k : Nat) (f : Value) (C : Addr) (ns : List Str) (I : Addr → List D → IOut) : Prop :=
 ∀ (A : Around) (fs : List Env) (S : Addr → Prop) (s : Shared) (vs : List Value) (ds : List D) (x dx : Addr), Vz A k → A.frames = some fs → (G.quiet = true → A.handled = none) → (∀ v, A.handled = some v → ∃ C, RV S s.heap v (.exc C)) → FF G.B s.heap fs → G.B.StaysIn s.heap → BX S s.heap → RVs S s.heap vs ds →
  s.heap.get? x = some (W.instObj C dx) → s.heap.Ns1 dx (fun _ => none) → x ≠ dx → ¬ S dx → G.B.get? dx = none → (∀ env ∈ fs, env.frame ≠ some dx) → ∀ R, Gq G ns dx S s R (I x ds) → codeAny G.M A (.call f ⟨.ref x :: vs, []⟩) R s
noncomputable def BE (n : Nat) (is : List Nat) (i₀ : Nat) (f : AEnv → Res Fl) (ts : List (Str × (AEnv → Res T))) (x : Addr) (ds : List D) : IOut := if ds.length + 1 = is.length then CV i₀ f ts x (OB n is (.glob (.ref x) :: ds)) else .stuck
set_option tactic.hygienic true in
theorem Et {G : Gd} (g : Gr G) {k : Nat} (a : Addr) (n : Nat) (is : List Nat) (i₀ : Nat) (C : Addr) (sf : Str) {f : AEnv → Res Fl} {sts : List Stmt} {ts : List (Str × (AEnv → Res T))} (h : SPre G k (Xr G.K a).scope sts (Y2 (Xr G.K a)) f) (ht : STail G k (Xr G.K a).scope C i₀ sf sts ts)
  (hbind : ∀ vs : List Value, vs.length = (Xv (Xr G.K a)).length → bindArgs (Xr G.K a) ⟨vs, []⟩ = pure ((Xv (Xr G.K a)).zip vs)) (hn : (Qf (Xr G.K a).scope).length = n) (hi : YL (Qf (Xr G.K a).scope) (Xv (Xr G.K a)) = is) (hsf : (Qf (Xr G.K a).scope)[i₀]? = some sf)
  (hdb : (sf == ("__debug__" : Str)) = false) (hcd : (sf == ("__classdict__" : Str)) = false) (hp : W.plainOver G.K C = true) (hh : (W.clsIn G.K C).any (·.hasDict) = true)
  (hs : W.findIn G.K (.ref C) "__setattr__" = some (some (.builtin "object.__setattr__"))) (hnd : Um (ts.map (·.1)) = true) (hnl : ts.length ≤ 100)
  (hf : Uo G.K a = true) (hc : W.codeIn G.K (Xr G.K a).code (Xr G.K a).qualname = true) (hpl : Wv (Xr G.K a) = true) :
  WR G (k + 1) (.ref a) C (ts.map (·.1)) (BE n is i₀ f ts) := by
 obtain ⟨fo, h1, h2⟩ := BK g hf
 unfold Wv at hpl
 simp only [Bool.and_eq_true, beq_iff_eq, Bool.not_eq_true'] at hpl
 obtain ⟨⟨⟨⟨⟨⟨⟨⟨⟨p1, p2⟩, p3⟩, p4⟩, p5⟩, p6⟩, p7⟩, p8⟩, p9⟩, p10⟩ := hpl
 have p7' : ∀ x ∈ Xv (Xr G.K a), (Qf (Xr G.K a).scope).contains x = true ∧ ((Xr G.K a).scope.names.lookup x = some .local ∨ (Xr G.K a).scope.names.lookup x = some .cell) := fun x hx => by
  have := List.all_eq_true.mp p7 x hx
  simpa using this
 have hb : (Xr G.K a).body = .stmts (Y2 (Xr G.K a)) := by
  unfold Y2
  split at p1
  ·rename_i b e; rw [e]
  ·cases p1
 intro A fs S s vs ds x dx room fr hd hok ff hB sd rv hx hdx hxd hSd hBd hfd R fin
 unfold BE at fin
 split at fin
 rotate_left
 ·exact fin.elim
 rename_i hlen
 have hil : is.length = (Xv (Xr G.K a)).length := by rw [← hi]; unfold YL; simp
 have rv' : RVs S s.heap (.ref x :: vs) (.glob (.ref x) :: ds) := .cons (.glob _ fun b e => by cases e; exact ⟨_, hx⟩) rv
 refine Fk g.ok (body := Y2 (Xr G.K a)) (ps := Xv (Xr G.K a)) h1 h2 (W.codeRec_of g.ok.K hc) hb (by simpa using p2) p3 p4 hbind (fun x hx => (p7' x hx).2) (Ze p6) (Ze p5) p8 p9 p10 room fr hd hok ff hB sd rv' (by rw [List.length_cons, hlen, hil]) fun cx h₁ tk₁ ok fn e₀ eP eF eL r₀ hk₁ => ?_
 rw [Bh (Ze p5) (List.all_eq_true.mpr fun x hx => (p7' x hx).1), hn, hi] at r₀
 refine h.wp ok fn (s := { s with heap := h₁, toks := tk₁ }) r₀ ?_
 unfold CV at fin
 cases hfr : f (OB n is (.glob (.ref x) :: ds)) with
 | stuck => rw [hfr] at fin; exact fin.elim
 | exc C ρ' =>
  rw [hfr] at fin
  intro e h₂ t₂ S₂ r₂ f₂ x₂
  refine K8 (B := G.B) (h := h₁) (s := { s with heap := h₂, toks := t₂ }) ok.fr r₂.ff ok.top f₂ x₂.dom fun h₃ k₃ f₃ => ?_
  have r₃ := r₀.kpE r₂ k₃ f₂ f₃
  refine fin e h₃ t₂ (e₀ ▸ r₃.keep) r₃.base ?_
  obtain ⟨n, oe, ws, T, oT, ts, a1, a2, a0, a3, a4, a5, a6, a7, a8⟩ := f₃
  have back : ∀ b, h₁.get? b = none → s.heap.get? b = none := fun b q => by
   cases q' : s.heap.get? b with
   | none => rfl
   | some o => rw [hk₁ b o q'] at q; cases q
  exact ⟨back e n, oe, ws, T, oT, ts, a1, a2, a0, a3, a4, a5, a6, back T a7, a8⟩
 | ok fl ρ₁ =>
  rw [hfr] at fin
  cases fl <;> first | exact fin.elim | skip
  simp only at fin
  split at fin
  ·rename_i y hy
   split at fin
   ·rename_i hyx
    subst hyx
    cases htl : ZB ts ρ₁ with
    | none => rw [htl] at fin; exact fin.elim
    | some ds' =>
     rw [htl] at fin
     intro h₂ t₂ S₂ r₂ x₂
     obtain ⟨v, hv, tv⟩ := r₂.vars i₀ sf _ hsf hy
     cases tv
     have hdx₀ : cx.h₀.Ns1 dx (fun _ => none) := by rw [e₀]; exact hdx
     have hdx₂ : h₂.Ns1 dx (fun _ => none) := r₂.keep.ns1 hdx₀
     have gd : ∃ o, cx.h₀.get? dx = some o := let ⟨o, _, _, e, _⟩ := hdx₀; ⟨o, e⟩
     refine EO g.ok (x := y) (dx := dx) hdb hcd hp hh hs ok ht (g := cx.h₀) (s := { s with heap := h₂, toks := t₂ }) (ns := []) (vs := []) (ds := []) (m := fun _ => none)
      ⟨r₂, fun _ _ => rfl, gd, by rw [e₀]; exact hx, hxd, by rw [eP]; exact hSd, hBd, ?_, ?_, hv, hdx₂, rfl, fun _ _ => rfl, .nil⟩ (Ze hnd) (by rw [List.nil_append, List.length_map]; exact hnl) htl fun h' tk g' ρ' S' vs' m' ti sub => ?_
     ·rintro rfl
      obtain ⟨o, e⟩ := gd
      rw [fn.lnew] at e; cases e
     ·intro env he
      obtain ⟨env₀, outer, e1, e2⟩ := ok.top
      rw [e1] at he eF
      rcases List.mem_cons.mp he with rfl | he
      ·intro q
       rw [← e2, eL] at q; cases q
       obtain ⟨o, e⟩ := gd
       rw [fn.lnew] at e; cases e
      ·exact hfd env (by rw [← eF]; exact he)
     ·refine fin h' tk S' m' vs' (fun b o hb e => ?_) ti.r.base (fun b q => sub b (x₂.sub b q)) (fun b q => ?_) ti.r.sdom ti.nsd.ns ⟨by have := ti.hm; rwa [List.nil_append] at this, by have := ti.hmn; rwa [List.nil_append] at this⟩ (by have := ti.rv; rwa [List.nil_append] at this)
      ·exact ti.r.keep b o ((ti.gk b hb).trans (by rw [e₀]; exact e))
      ·rcases ti.r.sok b q with q' | q'
       ·exact .inl (eP ▸ q')
       ·refine .inr ?_
        have q' : g'.get? b = none := q'
        rw [← e₀, ← ti.gk b (by rintro rfl; obtain ⟨o, e⟩ := ti.gd; rw [q'] at e; cases e)]
        exact q'
   ·exact fin.elim
  ·exact fin.elim
end Mine
end

section
set_option Elab.async false
set_option maxRecDepth 100000
namespace Mine
open PySem PyProof.Rows
noncomputable def Ku (I : Addr → List D → IOut) (ds : List D) : IOut := by
 classical exact if h : ∃ o, ∀ x, I x ds = o then Classical.choose h else .stuck
theorem EU {I : Addr → List D → IOut} {ds : List D} {o : IOut} (h : ∀ x, I x ds = o) : Ku I ds = o := by
 unfold Ku
 have hh : ∃ o, ∀ x, I x ds = o := ⟨o, h⟩
 rw [dif_pos hh, ← Classical.choose_spec hh 0, h 0]
set_option tactic.hygienic true in
theorem CH {I : Addr → List D → IOut} {ds : List D} (x : Addr) (h : Ku I ds ≠ .stuck) : I x ds = Ku I ds := by
 unfold Ku at h ⊢
 split at h
 ·rename_i hh; rw [dif_pos hh]; exact Classical.choose_spec hh x
 ·exact absurd rfl h
noncomputable def Vg (C : Addr) (ns : List Str) (I : Addr → List D → IOut) (fa : AEnv → Res (List Bv)) : AEnv → Res T := fun ρ => (fa ρ).bind fun bs ρ₁ => match XM ρ₁ bs with
 | some ds => if bs.all (ZQ ρ₁) then (match Ku I ds with
  | .ok es => .ok (.sh (.obj C ns es)) ρ₁
  | .exc C' => .exc C' ρ₁
  | .stuck => .stuck) else .stuck
 | none => .stuck
section
variable {G : Gd} {k : Nat} {sc : Scope}
theorem B0 {A : Around} {C : Addr} {vs : List Value} {k' : Nat} (r : Vz A (k' + 1)) : Vz (A.under (.builtin "type.__call__" ⟨.ref C :: vs, []⟩)) k' ∧ (A.under (.builtin "type.__call__" ⟨.ref C :: vs, []⟩)).frames = A.frames ∧ (A.under (.builtin "type.__call__" ⟨.ref C :: vs, []⟩)).handled = A.handled := by
 have w : (Code.builtin "type.__call__" ⟨.ref C :: vs, []⟩).weight = 1 := by
  unfold Code.weight Code.isGuard Code.isCaller Code.isCreation
  rfl
 have u : (Code.builtin "type.__call__" ⟨.ref C :: vs, []⟩).cUnits = 1 := rfl
 refine ⟨⟨?_, ?_⟩, ?_, rfl⟩
 ·show A.depth + (Code.builtin "type.__call__" ⟨.ref C :: vs, []⟩).weight + k' ≤ 900
  rw [w]; have := r.1; omega
 ·show A.units + (Code.builtin "type.__call__" ⟨.ref C :: vs, []⟩).cUnits + 8 * k' ≤ 9000
  rw [u]; have := r.2; omega
 ·unfold Around.under
  cases A.frames <;> rfl
theorem DB {cx : Cx} {ρ : AEnv} {S : Addr → Prop} {s : Shared} {C f : Addr} {ns : List Str} {I : Addr → List D → IOut} {vs : List Value} {bs : List Bv} {ds : List D} {k' : Nat} (hG : G.Ok) (hI : WR G k' (.ref f) C ns I) (ok : CxOk G cx sc k) (hk : k' + 1 ≤ k) (hm : W.makesIn G.K C = true) (hi : W.findIn G.K (.ref C) "__init__" = some (some (.ref f))) (hf : W.typeIn G.K (.ref f) = some (.type "function"))
  (r : Rel G cx sc ρ S s.heap) (q : BVals cx sc S s.heap vs bs) (hs : bs.all (ZQ ρ) = true) (e : XM ρ bs = some ds) :
  Qq G cx sc true (call (.ref C) vs []) S s (fun S' h' v t => Jp cx S' h' v t) (match Ku I ds with
   | .ok es => .ok (.sh (.obj C ns es)) ρ
   | .exc C' => .exc C' ρ
   | .stuck => .stuck) := by
 intro Q E out
 refine wpAny_call ?_
 have X : G.K.In s.heap := hG.K.keeps r.base
 obtain ⟨hh, gg, dd, tt, os⟩ := s
 refine W.make_core (W.makes_of X hm) (W.looks_findIn X hi) (fun sf => W.bind_fn X sf hf) (.inl rfl) ?_
 have kp : ∀ b o, hh.get? b = some o → ((hh.push W.emptyDict).push (W.instObj C hh.objs.size)).get? b = some o := fun b o e => Heap.get?_push_of_some _ (Heap.get?_push_of_some _ e)
 have hdx : ((hh.push W.emptyDict).push (W.instObj C hh.objs.size)).get? hh.objs.size = some W.emptyDict := Heap.get?_push_of_some _ (Heap.get?_push_size _ rfl)
 have hx : ((hh.push W.emptyDict).push (W.instObj C hh.objs.size)).get? (hh.objs.size + 1) = some (W.instObj C hh.objs.size) := by
  have := Heap.get?_push_size (hh.push W.emptyDict) (o := W.instObj C hh.objs.size) rfl
  rwa [Heap.size_push] at this
 have hn0 : hh.get? hh.objs.size = none := Heap.get?_none_of_le (Nat.le_refl _)
 have hn1 : hh.get? (hh.objs.size + 1) = none := Heap.get?_none_of_le (Nat.le_succ _)
 have r₁ : Rel G cx sc ρ S ((hh.push W.emptyDict).push (W.instObj C hh.objs.size)) := r.keeps kp
 have rv : RVs S ((hh.push W.emptyDict).push (W.instObj C hh.objs.size)) vs ds := (q.rvs r hs e).ext (Ext.of_keeps kp)
 obtain ⟨u1, u2, u3⟩ := B0 (C := C) (vs := vs) (k' := k') (ok.room.mono hk)
 refine hI _ cx.fs S ⟨(hh.push W.emptyDict).push (W.instObj C hh.objs.size), gg, dd, tt, os⟩ vs ds (hh.objs.size + 1) hh.objs.size u1 (u2.trans ok.fr) (fun z => u3.trans (ok.hd z)) (fun v z => r₁.hok v (u3 ▸ z)) r₁.ff r₁.base r₁.sdom rv hx ?_ (Nat.succ_ne_self _) ?_ ?_ ?_ _ ?_
 ·exact Heap.Ns1.of_empty ⟨_, _, _, hdx, rfl, fun e he => absurd he (by simp), fun _ => rfl⟩
 ·intro z; obtain ⟨o, e⟩ := r.sdom _ z; rw [hn0] at e; cases e
 ·cases z : G.B.get? hh.objs.size with
  | none => rfl
  | some o => have := r.base _ o z; rw [hn0] at this; cases this
 ·intro env he z
  obtain ⟨_, L, o, b, _, d, _⟩ := r.ff env he
  rw [z] at b; cases b
  rw [hn0] at d; cases d
 ·cases ha : Ku I ds with
  | stuck => rw [ha] at out; exact out.elim
  | exc C' =>
   rw [ha] at out
   rw [CH (I := I) (ds := ds) (hh.objs.size + 1) (by rw [ha]; intro z; cases z), ha]
   intro e h' tk k1 hb fl
   refine out e h' tk S (r₁.kp k1 hb) ?_ ((Ext.of_keeps kp).trans (Ext.of_kp k1))
   exact fl.fly.back (Ext.of_keeps (S := S) kp)
  | ok es =>
   rw [ha] at out
   rw [CH (I := I) (ds := ds) (hh.objs.size + 1) (by rw [ha]; intro z; cases z), ha]
   intro h' tk S' m vs' keep hb sub new sd nsd hmm rvs
   refine ⟨rfl, ?_⟩
   have kp' : Kp hh h' := fun b o e => keep b o (by rintro rfl; rw [hn0] at e; cases e) (kp b o e)
   have hx' : h'.get? (hh.objs.size + 1) = some (W.instObj C hh.objs.size) := by
    obtain ⟨sl, e₁, hs⟩ := keep _ _ (Nat.succ_ne_self _) hx
    rw [hs fun es m z => by cases z] at e₁; exact e₁
   have hdx' : ∃ o, h'.get? hh.objs.size = some o := let ⟨o, _, _, e, _⟩ := nsd; ⟨o, e⟩
   obtain ⟨r', x'⟩ := r.kpS (S' := fun b => S' b ∨ b = hh.objs.size ∨ b = hh.objs.size + 1) kp' hb (fun b z => .inl (sub b z)) (fun b z => by
    rcases z with z | rfl | rfl
    ·rcases new b z with z | z
     ·exact .inl z
     ·refine .inr ?_
      cases z' : hh.get? b with
      | none => rfl
      | some o => have := kp b o z'; rw [z] at this; cases this
    ·exact .inr hn0
    ·exact .inr hn1) (fun b z => by
    rcases z with z | rfl | rfl
    ·exact sd b z
    ·exact hdx'
    ·exact ⟨_, hx'⟩)
   exact out (.ref (hh.objs.size + 1)) h' tk _ r' (.obj (.inr (.inr rfl)) (.inr (.inl rfl)) hx' nsd hmm (rvs.ext (Ext.grow fun _ z => .inl z))) x' fun _ => r.same kp'
set_option tactic.hygienic true in
theorem DK (hG : G.Ok) {g : Str} {p pos : Pos} {C f : Addr} {ns : List Str} {I : Addr → List D → IOut} {args : List Expr} {fa : AEnv → Res (List Bv)} {k' : Nat} (hn : Sim G k sc (.Name g p) (Qd (.glob (.ref C)))) (hI : WR G k' (.ref f) C ns I) (hk : k' + 1 ≤ k) (ha : YH G k sc args fa) (hu : args.all QU = true)
  (hpl : ∀ env, ((backTo pos (starEach args env)).any (·.1) || ([] : List (Option Str × Sem Value)).any (·.1.isNone)) = false) (hkp : W.keepIn G.K (.ref C) = true) (hm : W.makesIn G.K C = true) (hi : W.findIn G.K (.ref C) "__init__" = some (some (.ref f))) (hf : W.typeIn G.K (.ref f) = some (.type "function")) :
  Sim G k sc (.Call (.Name g p) args [] pos) (Vg C ns I fa) := by
 intro cx ok ρ S s r Q E out
 show wpAny G.M cx.A (do callWith pos (← eval (.Name g p) cx.env) [] (backTo pos (starEach args cx.env)) []) Q E s
 refine wpAny_bind (hn cx ok ρ S s r _ _ ?_)
 intro v h₁ t₁ S₁ r₁ j₁ x₁ v₁
 have hv : v = .ref C := by cases j₁; rfl
 subst hv
 refine W.callWith_of (P := G.K.In) (hpl cx.env) (W.keeps_K hkp) (X5 hu ?_)
 refine ha pos cx ok ρ S₁ { s with heap := h₁, toks := t₁ } r₁ _ _ ?_
 unfold Vg at out
 cases hfa : fa ρ with
 | stuck => rw [hfa] at out; exact out.elim
 | exc C ρ' => rw [hfa] at out; intro e h₂ t₂ S₂ r₂ f₂ x₂; exact out e h₂ t₂ S₂ r₂ (f₂.back x₁) (x₁.trans x₂)
 | ok bs ρ' =>
  rw [hfa] at out
  simp only [Res.bind] at out
  intro vs h₂ t₂ S₂ r₂ j₂ x₂ v₂
  refine ⟨hG.K.keeps r₂.base, ?_⟩
  split at out
  ·rename_i ds hds
   split at out
   ·rename_i hs
    refine DB (s := { s with heap := h₂, toks := t₂ }) hG hI ok hk hm hi hf r₂ j₂ hs hds Q E ?_
    cases hc : Ku I ds with
    | stuck => rw [hc] at out; exact out
    | exc C' => rw [hc] at out; intro e h₃ t₃ S₃ r₃ f₃ x₃; exact out e h₃ t₃ S₃ r₃ (f₃.back (x₁.trans x₂)) ((x₁.trans x₂).trans x₃)
    | ok es => rw [hc] at out; intro w h₃ t₃ S₃ r₃ j₃ x₃ v₃; exact out w h₃ t₃ S₃ r₃ j₃ ((x₁.trans x₂).trans x₃) fun q => ((v₁ q).trans (v₂ q)).trans (v₃ q)
   ·exact out.elim
  ·exact out.elim
end
end Mine
end

section
set_option Elab.async false
set_option maxRecDepth 100000
namespace Mine
open PySem PyProof.Rows
section
variable {prog : Program} {w : World} {A : Around} {E : Value → Shared → Prop} {s : Shared}
end
section
variable {G : Gd} {A : Around} {tg : Expr}
end
end Mine
end

section
set_option Elab.async false
set_option maxRecDepth 100000
namespace Mine
open PySem PyProof.Rows
section
variable {G : Gd} {k : Nat} {sc : Scope} {x : Str} {p : Pos} {args : List Expr} {pos : Pos}
theorem atr (g : Gr G) (C : Addr) {n : Str} (i : Nat) (hx : (Qf sc)[i]? = some x := by kernel_rfl) (hd : (x == ("__debug__" : Str)) = false := by kernel_rfl) (hn : (x == ("__classdict__" : Str)) = false := by kernel_rfl)
  (hga : W.findIn G.K (.ref C) "__getattribute__" = some (some (.builtin "object.__getattribute__")) := by kernel_rfl) (hc : (W.clsIn G.K C).any (·.hasDict) = true := by kernel_rfl) (hf : W.findIn G.K (.ref C) n = some none := by kernel_rfl) : Sim G k sc (.Attribute (.Name x p) n pos) (Uq C n i) := Ez g.ok hx hd hn hga hc hf
theorem mtd (g : Gr G) (C f : Addr) (i : Nat) {n : Str} {apos : Pos} {k' : Nat} {F : List D → FOut} {fa : AEnv → Res (List Bv)} (hF : Zt G k' (.ref f) F) (ha : YH G k sc args fa) (hk : k' ≤ k := by decide) (hfn : Uo G.K f = true := by kernel_rfl) (hu : args.all QU = true := by kernel_rfl)
  (hx : (Qf sc)[i]? = some x := by kernel_rfl) (hd : (x == ("__debug__" : Str)) = false := by kernel_rfl) (hn : (x == ("__classdict__" : Str)) = false := by kernel_rfl)
  (hfew : ∀ env, ((backTo pos (starEach args env)).all (fun x => !x.1) && (backToKw pos (keywordEach [] env)).all (fun x => x.1.isSome) && decide (args.length + ([] : List Keyword).length + (if ([] : List Keyword).isEmpty then 0 else 1) < 30)) = true := by intro _; rfl) (hline : (apos.endLine == pos.line) = true := by rfl)
  (hga : W.findIn G.K (.ref C) "__getattribute__" = some (some (.builtin "object.__getattribute__")) := by kernel_rfl) (hgt : W.findIn G.K (.ref C) "__getattr__" = some none := by kernel_rfl) (hf : W.findIn G.K (.ref C) n = some (some (.ref f)) := by kernel_rfl) (hty : W.typeIn G.K (.ref f) = some (.type "function") := by kernel_rfl) :
  Sim G k sc (.Call (.Attribute (.Name x p) n apos) args [] pos) (Ow C n i F fa) := by
 obtain ⟨fo, h1, h2⟩ := BK g hfn
 exact E7 g.ok hF hk h1 h2 ha hu hx hd hn hfew hline hga hgt hf hty
theorem mak (g : Gr G) (C f : Addr) {ns : List Str} {k' : Nat} {I : Addr → List D → IOut} {fa : AEnv → Res (List Bv)} (hI : WR G k' (.ref f) C ns I) (ha : YH G k sc args fa) (hk : k' + 1 ≤ k := by decide) (hu : args.all QU = true := by kernel_rfl)
  (e : W.nsIn G.K mainGlobals x = some (some (.ref C)) := by kernel_rfl) (ho : (G.K.lookup C).isSome = true := by kernel_rfl) (hx : sc.names.lookup x = some .globalImplicit := by kernel_rfl) (hd : (x == ("__debug__" : Str)) = false := by kernel_rfl)
  (hpl : ∀ env, ((backTo pos (starEach args env)).any (·.1) || ([] : List (Option Str × Sem Value)).any (·.1.isNone)) = false := by intro _; rfl) (hkp : W.keepIn G.K (.ref C) = true := by kernel_rfl) (hm : W.makesIn G.K C = true := by kernel_rfl) (hi : W.findIn G.K (.ref C) "__init__" = some (some (.ref f)) := by kernel_rfl) (hf : W.typeIn G.K (.ref f) = some (.type "function") := by kernel_rfl) :
  Sim G k sc (.Call (.Name x p) args [] pos) (Vg C ns I fa) := DK g.ok (gF g C e ho hx hd) hI hk ha hu hpl hkp hm hi hf
theorem tC {C : Addr} {i₀ : Nat} {sf n : Str} {ap : Pos} {value : Expr} {f : AEnv → Res T} {sts : List Stmt} {ts : List (Str × (AEnv → Res T))} (h : Sim G k sc value f) (hr : STail G k sc C i₀ sf sts ts) (hsw : ∀ env : Env, swapsWithSole [.Attribute (.Name sf p) n ap] value pos.line env = pure false := by intro _; rfl) (hw : ∀ env : Env, swappedStores [.Attribute (.Name sf p) n ap] value env = pure none := by intro _; rfl) (ht : W.takerIn G.K C n = some none := by kernel_rfl) :
  STail G k sc C i₀ sf (.Assign [.Attribute (.Name sf p) n ap] value pos :: sts) ((n, f) :: ts) := .cons h (fun env _ => hsw env) hw ht hr
theorem Gu (g : Gr G) (a : Addr) (n : Nat) (is : List Nat) (i₀ : Nat) (C : Addr) (sf : Str) {f : AEnv → Res Fl} {sts : List Stmt} {ts : List (Str × (AEnv → Res T))} (h : SPre G k (Xr G.K a).scope sts (Y2 (Xr G.K a)) f) (ht : STail G k (Xr G.K a).scope C i₀ sf sts ts)
  (hbind : ∀ vs : List Value, vs.length = (Xv (Xr G.K a)).length → bindArgs (Xr G.K a) ⟨vs, []⟩ = pure ((Xv (Xr G.K a)).zip vs)) (hn : (Qf (Xr G.K a).scope).length = n := by kernel_rfl) (hi : YL (Qf (Xr G.K a).scope) (Xv (Xr G.K a)) = is := by kernel_rfl) (hsf : (Qf (Xr G.K a).scope)[i₀]? = some sf := by kernel_rfl)
  (hdb : (sf == ("__debug__" : Str)) = false := by kernel_rfl) (hcd : (sf == ("__classdict__" : Str)) = false := by kernel_rfl) (hp : W.plainOver G.K C = true := by kernel_rfl) (hh : (W.clsIn G.K C).any (·.hasDict) = true := by kernel_rfl)
  (hs : W.findIn G.K (.ref C) "__setattr__" = some (some (.builtin "object.__setattr__")) := by kernel_rfl) (hnd : Um (ts.map (·.1)) = true := by kernel_rfl) (hnl : Nat.ble ts.length 100 = true := by kernel_rfl)
  (hf : Uo G.K a = true := by kernel_rfl) (hc : W.codeIn G.K (Xr G.K a).code (Xr G.K a).qualname = true := by kernel_rfl) (hpl : Wv (Xr G.K a) = true := by kernel_rfl) :
  WR G (k + 1) (.ref a) C (ts.map (·.1)) (BE n is i₀ f ts) := Et g a n is i₀ C sf h ht hbind hn hi hsf hdb hcd hp hh hs hnd (Nat.le_of_ble_eq_true hnl) hf hc hpl
end
end Mine
end

section
set_option Elab.async false
set_option maxRecDepth 100000
namespace Mine
open PySem PyProof.Rows
noncomputable def Os (is : List Nat) (f : AEnv → Res T) : AEnv → Res Fl := fun ρ => (f ρ).bind fun t ρ₁ => match t with
 | .sh d => match Je is d ρ₁ with
  | some ρ₂ => .ok .next ρ₂
  | none => .stuck
 | .ow _ _ => .stuck
section
variable {G : Gd} {k : Nat} {sc : Scope}
theorem Dq {es : List Expr} {xs : List Str} {is : List Nat} {n : Nat} {tp pos : Pos} {value : Expr} {f : AEnv → Res T} (hn : Names sc es xs is) (h : Sim G k sc value f) (hxs : ∀ x ∈ xs, sc.names.lookup x = some .local ∨ sc.names.lookup x = some .cell)
  (hs : ∀ env, swapsWithSole [.Tuple es n tp] value pos.line env = pure false) (hw : ∀ env, swappedStores [.Tuple es n tp] value env = pure none) : Yk G k sc (.Assign [.Tuple es n tp] value pos) (Os is f) := by
 intro cx ok fn ρ S s r Q E out
 refine Assign_Tuple ?_ (hs _) (hw _)
 refine (h cx ok ρ S s r).loose (same := false) _ _ ?_
 unfold Os at out
 cases hf : f ρ with
 | stuck => rw [hf] at out; exact out
 | exc C ρ' => rw [hf] at out; exact out
 | ok t ρ' =>
  rw [hf] at out
  simp only [Res.bind] at out
  cases t with
  | ow m d => exact out.elim
  | sh d =>
   simp only at out
   cases hb : Je is d ρ' with
   | none => rw [hb] at out; exact out.elim
   | some ρ'' =>
    rw [hb] at out
    intro v h₁ t₁ S₁ r₁ j₁ x₁ _
    have hn' : ∀ x ∈ xs, Jx cx sc x := fun x hx => (hxs x hx).imp id fun q => ⟨q, fn.has x (by unfold Env.kindOf; rw [ok.hsc]; exact q)⟩
    refine UV hn cx k ok fn.toFnCx hn' ρ' S₁ { s with heap := h₁, toks := t₁ } v d ρ'' r₁ j₁ hb _ _ ?_
    intro _ h₂ t₂ S₂ r₂ _ x₂ _
    exact out .next h₂ t₂ S₂ r₂ trivial (x₁.trans x₂) fun z => by cases z
theorem nmN : Names sc [] [] [] := .nil
theorem nmC {x : Str} {p : Pos} {es : List Expr} {xs : List Str} {is : List Nat} (i : Nat) (h : Names sc es xs is) (hx : (Qf sc)[i]? = some x := by kernel_rfl) : Names sc (.Name x p :: es) (x :: xs) (i :: is) := .cons hx h
theorem Gp {es : List Expr} {xs : List Str} {is : List Nat} {n : Nat} {tp pos : Pos} {value : Expr} {f : AEnv → Res T} (hn : Names sc es xs is) (h : Sim G k sc value f) (hxs : (xs.all fun x => sc.names.lookup x == some .local || sc.names.lookup x == some .cell) = true := by kernel_rfl)
  (hs : ∀ env, swapsWithSole [.Tuple es n tp] value pos.line env = pure false := by intro _; rfl) (hw : ∀ env, swappedStores [.Tuple es n tp] value env = pure none := by intro _; rfl) : Yk G k sc (.Assign [.Tuple es n tp] value pos) (Os is f) :=
 Dq hn h (fun x hx => by simpa using List.all_eq_true.mp hxs x hx) hs hw
end
theorem CY {G : Gd} {k : Nat} {v : Value} : Zt G k v fun _ => .stuck := fun _ _ _ _ _ _ _ _ _ _ _ _ _ _ _ fin => fin.elim
theorem Fc {is : List Nat} {f : AEnv → Res T} {ρ ρ₁ ρ₂ : AEnv} {d : D} (h1 : f ρ = .ok (.sh d) ρ₁) (h2 : Je is d ρ₁ = some ρ₂) : Os is f ρ = .ok .next ρ₂ := by
 unfold Os; rw [h1]; simp only [Res.bind, h2]
end Mine
end

section
set_option Elab.async false
set_option maxRecDepth 100000
namespace Mine
open PySem PyProof.Rows
section
variable {G : Gd} {k : Nat} {sc : Scope}
end
end Mine
end

section
set_option Elab.async false
set_option maxRecDepth 100000
namespace Mine
open PySem PyProof.Rows
end Mine
end

section
set_option Elab.async false
set_option maxRecDepth 100000
namespace Mine
open PySem PyProof.Rows
theorem Jn {ρ : AEnv} (h : Za ρ = true) (i : Nat) (d : D) : Za (ρ.set i (some (.sh d))) = true := by
 refine List.all_eq_true.mpr fun t ht => ?_
 rcases List.mem_or_eq_of_mem_set ht with q | rfl
 ·exact List.all_eq_true.mp h t q
 ·rfl
noncomputable def Kr (cx : Cx) (sc : Scope) (ρ : AEnv) (h : Heap) (S : Addr → Prop) (hb : Heap) : Prop := ∀ (i : Nat) (x : Str) (d : D), (Qf sc)[i]? = some x → ρ[i]? = some (some (.sh d)) → ∃ v, Var cx.env h x v ∧ RV S hb v d
section
variable {G : Gd} {cx : Cx} {sc : Scope} {ρ ρ' : AEnv} {S C : Addr → Prop} {h h' hb : Heap}
theorem Rel.held (r : Rel G cx sc ρ S h) : Kr cx sc ρ h S h := fun i x _ hx hi => r.vars i x _ hx hi
theorem Kr.ext (q : Kr cx sc ρ h S hb) (x : Ext S hb S h') : Kr cx sc ρ h S h' := fun i y d hy hi => let ⟨v, hv, rv⟩ := q i y d hy hi; ⟨v, hv, rv.ext x⟩
theorem Kr.same (q : Kr cx sc ρ h S hb) (k : Qv cx.env h h') : Kr cx sc ρ h' S hb := fun i y d hy hi => let ⟨v, hv, rv⟩ := q i y d hy hi; ⟨v, k _ _ hv, rv⟩
theorem Rel.remake (r : Rel G cx sc ρ S h) (hC : ∀ b, C b → S b) (ha : Za ρ' = true) (hv : Kr cx sc ρ' h C h) : Rel G cx sc ρ' C h where
 base := r.base
 keep := r.keep
 ff := r.ff
 ns := r.ns
 cells := r.cells
 sdom := fun b q => r.sdom b (hC b q)
 sok := fun b q => r.sok b (hC b q)
 sloc := fun q => r.sloc (hC _ q)
 scell := fun x c e q => r.scell x c e (hC _ q)
 live := r.live
 clean := fun _ _ _ _ _ hi => (Yo ha hi).elim
 hok := fun v q => let ⟨E, e⟩ := r.hok v q; ⟨E, e.free rfl⟩
 vars := fun i x t hx ht => by
  cases t with
  | sh d => exact hv i x d hx ht
  | ow m d => exact (Yo ha ht).elim
 inj := fun _ _ _ _ _ _ _ _ _ _ _ hi _ _ _ => (Yo ha hi).elim
 dok := fun _ _ _ _ _ _ hi => (Yo ha hi).elim
theorem Rel.nil (r : Rel G cx sc ρ S h) (hC : ∀ b, C b → S b) : Rel G cx sc [] C h := r.remake hC rfl fun _ _ _ _ q => by cases q
theorem Ext.shrink {S' : Addr → Prop} (x : Ext S h S' h') (hC : ∀ b, C b → S b) : Ext C h C h' := ⟨fun _ q => q, fun b o e q => x.keep b o e (q.imp (hC b) id), x.dom⟩
theorem Rel.turnNil {wr : List Addr} (r : Rel G cx sc [] S h) (hh : cx.A.handled = none) (new : ∀ b ∈ wr, cx.h₀.get? b = none ∧ G.B.get? b = none) (sh : ∀ b ∈ wr, ∃ o, h.get? b = some o ∧ XK o ∧ ∀ v, o.data ≠ .cell v) (k : KB wr h h') : Rel G cx sc [] S h' ∧ Qv cx.env h h' := by
 have nsame : ∀ m, h.Ns cx.env.locals m → h'.Ns cx.env.locals m := fun m n => by
  obtain ⟨o, es, ep, ho, hd, q⟩ := n
  refine ⟨o, es, ep, k.1 _ _ (fun hm => ?_) ho, hd, q⟩
  obtain ⟨o', e', nd, _⟩ := sh _ hm
  rw [ho] at e'; cases e'; exact nd _ _ hd
 have csame : ∀ c w, h.IsCell c w → h'.IsCell c w := fun c w n => by
  obtain ⟨o, ho, hd⟩ := n
  refine ⟨o, k.1 _ _ (fun hm => ?_) ho, hd⟩
  obtain ⟨o', e', _, nc⟩ := sh _ hm
  rw [ho] at e'; cases e'; exact nc _ hd
 have hb : Qv cx.env h h' := fun y w q => by
  rcases q with ⟨a, m₁, b, c⟩ | ⟨a, c, b, d⟩
  ·exact .inl ⟨a, m₁, nsame m₁ b, c⟩
  ·exact .inr ⟨a, c, b, csame c _ d⟩
 have hf : ∀ y w, Var cx.env h' y w → Var cx.env h y w := fun y w q => by
  rcases q with ⟨a, m₁, b, c⟩ | ⟨a, c, b, d⟩
  ·obtain ⟨m₀, n₀⟩ := r.ns
   exact .inl ⟨a, m₀, n₀, by rw [(nsame m₀ n₀).agree b y]; exact c⟩
  ·obtain ⟨w₀, n₀⟩ := r.cells y c b
   exact .inr ⟨a, c, b, by rw [IsCell.inj d (csame c _ n₀)]; exact n₀⟩
 refine ⟨⟨fun b o q => k.1 b o (fun m => by rw [(new b m).2] at q; cases q) (r.base b o q), fun b o q => ?_, fun env he => ?_, let ⟨m, n⟩ := r.ns; ⟨m, nsame m n⟩, fun y c q => let ⟨w, n⟩ := r.cells y c q; ⟨w, csame c w n⟩, fun b q => let ⟨o, eo⟩ := r.sdom b q; k.dom eo, r.sok, r.sloc, r.scell, fun y b hdy q => let ⟨o, eo⟩ := r.live y b hdy (hf y _ q); k.dom eo, r.clean, fun v q => (by rw [hh] at q; cases q), fun _ _ _ _ q => (by cases q), fun _ _ _ _ _ _ _ _ _ _ _ q => (by cases q), r.dok.back hf⟩, hb⟩
 ·obtain ⟨sl, q₁, k₁⟩ := r.keep b o q
  exact ⟨sl, k.1 b _ (fun m => by rw [(new b m).1] at q; cases q) q₁, k₁⟩
 ·obtain ⟨p, L, o, b, c, d, es, n, q⟩ := r.ff env he
  refine ⟨p, L, o, b, c, k.1 L o (fun hm => ?_) d, es, n, q⟩
  obtain ⟨o', e', nd, _⟩ := sh _ hm
  rw [d] at e'; cases e'; exact nd _ _ q
open Classical in
noncomputable def Wo (cx : Cx) (sc : Scope) (h : Heap) : AEnv := (Qf sc).map fun x => if q : Xb x = false ∧ ∃ v, Var cx.env h x v then some (.sh (.glob (Classical.choose q.2))) else none
theorem KI {i : Nat} {x : Str} {v : Value} (hx : (Qf sc)[i]? = some x) (hd : Xb x = false) (hv : Var cx.env h x v) : (Wo cx sc h)[i]? = some (some (.sh (.glob v))) := by
 unfold Wo
 rw [List.getElem?_map, hx]
 have q : Xb x = false ∧ ∃ v, Var cx.env h x v := ⟨hd, v, hv⟩
 refine congrArg some ((dif_pos q).trans ?_)
 rw [Var.inj (Classical.choose_spec q.2) hv]
theorem RV.glob_inv {v w : Value} (q : RV S h v (.glob w)) : v = w := by cases q; rfl
theorem Rel.pin (r : Rel G cx sc ρ S h) : Rel G cx sc (Wo cx sc h) S h := by
 refine r.remake (fun _ q => q) ?_ fun i x d hx hi => ?_
 ·refine List.all_eq_true.mpr fun t ht => ?_
  obtain ⟨x, _, rfl⟩ := List.mem_map.mp ht
  by_cases q : Xb x = false ∧ ∃ v, Var cx.env h x v
  ·rw [dif_pos q]; rfl
  ·rw [dif_neg q]; rfl
 ·unfold Wo at hi
  rw [List.getElem?_map, hx] at hi
  by_cases q : Xb x = false ∧ ∃ v, Var cx.env h x v
  ·have hi := (dif_pos q).symm.trans (Option.some.inj hi)
   obtain rfl : D.glob (Classical.choose q.2) = d := T.sh.inj (Option.some.inj hi)
   exact ⟨_, Classical.choose_spec q.2, .glob _ fun a e => r.live x a q.1 (by rw [← e]; exact Classical.choose_spec q.2)⟩
  ·have hi := (dif_neg q).symm.trans (Option.some.inj hi)
   cases hi
theorem Rel.unpin {i : Nat} {x : Str} {v : Value} (r : Rel G cx sc ρ S h) (hx : (Qf sc)[i]? = some x) (hi : ρ[i]? = some (some (.sh (.glob v)))) : Var cx.env h x v := by
 obtain ⟨w, hw, tv⟩ := r.vars i x _ hx hi
 rw [← RV.glob_inv tv]; exact hw
end
noncomputable def V4 (f : AEnv → Res T) : AEnv → Res T := fun ρ => (f ρ).bind fun t ρ₁ => .ok (.sh t.val) ρ₁
theorem Dd {G : Gd} {k : Nat} {sc : Scope} {e : Expr} {f : AEnv → Res T} (h : Sim G k sc e f) : Sim G k sc e (V4 f) := by
 intro cx ok ρ S s r Q E out
 refine (h cx ok ρ S s r).shared Q E ?_
 unfold V4 at out
 cases hf : f ρ with
 | stuck => rw [hf] at out; exact out
 | exc C ρ₁ => rw [hf] at out; exact out
 | ok t ρ₁ => rw [hf] at out; exact out
section
variable {prog : Program} {w : World} {A : Around} {E : Value → Shared → Prop} {s : Shared}
theorem Jt {h h' : Heap} {it l : Addr} {i : Nat} (q : IsTupIter h it l i) (k : ∀ o, h.get? it = some o → h'.get? it = some o) : IsTupIter h' it l i := let ⟨o, ho, r⟩ := q; ⟨o, k o ho, r⟩
theorem FK {h h' : Heap} {l : Addr} {xs : Array Value} (q : IsTup h l xs) (k : ∀ o, h.get? l = some o → h'.get? l = some o) : IsTup h' l xs := let ⟨o, ho, r⟩ := q; ⟨o, k o ho, r⟩
theorem Oy {z TI TO i1 i2 l1 l2 : Addr} {k1 k2 : Nat} {xs ys : Array Value} {x y a b : Value} {Q : Value → Shared → Prop} (D : ZipApart z TI TO i1 i2 l1 l2)
  (hz : IsZip s.heap z TI TO .none) (hTI : IsPair s.heap TI (.ref i1) (.ref i2)) (hTO : IsPair s.heap TO a b)
  (h1 : s.heap.IsListIter i1 l1 k1) (h2 : IsTupIter s.heap i2 l2 k2) (hl1 : s.heap.IsList l1 xs) (hl2 : IsTup s.heap l2 ys) (hx : xs[k1]? = some x) (hy : ys[k2]? = some y)
  (hQ : ∀ h', IsZip h' z TI TO (rawInt s.heap.objs.size) → IsPair h' TO x y → h'.IsListIter i1 l1 (k1 + 1) → IsTupIter h' i2 l2 (k2 + 1) → IsPair h' s.heap.objs.size x y →
   (∀ c o, c ≠ z → c ≠ TO → c ≠ i1 → c ≠ i2 → s.heap.get? c = some o → h'.get? c = some o) → Q (.ref s.heap.objs.size) { s with heap := h' }) :
  wpAny (model prog w) A (Builtin.«zip.__next__» ⟨[.ref z], []⟩) (fun fin s' => ∃ v, fin = .done (.ret v) ∧ Q v s') E s := by
 show wpAny _ _ (field (.ref z) 2 >>= _) _ _ _
 refine wpAny_bind (wpAny_field hz rfl (x := .bool false) rfl ?_)
 show wpAny _ _ (field (.ref z) 3 >>= _) _ _ _
 refine wpAny_bind (wpAny_field hz rfl (x := .ref TI) rfl ?_)
 refine wpAny_bind (wpAny_seqItems hTI rfl ?_)
 show wpAny _ _ (Builtin.SmallTypes.ownedTupleIsFree (.ref z) >>= _) _ _ _
 refine wpAny_bind ?_
 unfold Builtin.SmallTypes.ownedTupleIsFree
 refine wpAny_bind (wpAny_field hz rfl (x := .none) rfl (wpAny_pure ?_))
 simp only [if_true]
 refine wpAny_bind (wpAny_rule ?_)
 refine wpAny_bind (wpAny_field hz rfl (x := .ref TO) rfl ?_)
 refine wpAny_bind (wpAny_setField_rec hz (by simp) fun h₁ hz₁ hs₁ => ?_)
 replace hz₁ : IsZip h₁ z TI TO .ellipsis := hz₁
 refine wpAny_bind ?_
 simp only [List.zipIdx_cons, List.zipIdx_nil, List.forIn_cons, List.forIn_nil]
 refine wpAny_bind (wpAny_bind (wpAny_onRaise ?_))
 show wpAny _ _ (Builtin.SmallTypes.nextOf (.ref i1) >>= _) _ _ _
 refine wpAny_bind (wpAny_nextOf_list_item (h1.extBut hs₁.extBut D.i1z) (hl1.extBut hs₁.extBut D.l1z) hx fun h₂ h1₂ hs₂ => wpAny_pure ?_)
 have hTO₂ : IsPair h₂ TO a b := hs₂.extBut _ _ D.TOi1 (hs₁.extBut _ _ D.TOz hTO)
 refine wpAny_bind (wpAny_seqItems hTO₂ rfl ?_)
 refine wpAny_bind (wpAny_updateSeq_pair hTO₂ fun h₃ hTO₃ hs₃ => ?_)
 replace hTO₃ : IsPair h₃ TO x b := hTO₃
 refine wpAny_bind (wpAny_letGo (wpAny_pure ?_))
 refine wpAny_bind (wpAny_bind (wpAny_onRaise ?_))
 show wpAny _ _ (Builtin.SmallTypes.nextOf (.ref i2) >>= _) _ _ _
 refine wpAny_bind (Y1 (Jt h2 fun o e => hs₃.extBut _ _ D.TOi2.symm (hs₂.extBut _ _ D.i12.symm (hs₁.extBut _ _ D.i2z e)))
  (FK hl2 fun o e => hs₃.extBut _ _ D.l2TO (hs₂.extBut _ _ D.l2i1 (hs₁.extBut _ _ D.l2z e))) hy fun h₄ h2₄ hs₄ => wpAny_pure ?_)
 have hTO₄ : IsPair h₄ TO x b := hs₄.extBut _ _ D.TOi2 hTO₃
 refine wpAny_bind (wpAny_seqItems hTO₄ rfl ?_)
 refine wpAny_bind (wpAny_updateSeq_pair hTO₄ fun h₅ hTO₅ hs₅ => ?_)
 replace hTO₅ : IsPair h₅ TO x y := hTO₅
 refine wpAny_bind (wpAny_letGo (wpAny_pure (wpAny_pure ?_)))
 refine wpAny_bind (wpAny_seqItems hTO₅ rfl ?_)
 refine wpAny_bind (wpAny_newTuple ?_)
 have hsz : h₅.objs.size = s.heap.objs.size := by rw [hs₅.1, hs₄.1, hs₃.1, hs₂.1, hs₁.1]
 have hz₅ : IsZip h₅ z TI TO .ellipsis := hs₅.extBut _ _ D.TOz.symm (hs₄.extBut _ _ D.i2z.symm (hs₃.extBut _ _ D.TOz.symm (hs₂.extBut _ _ D.i1z.symm hz₁)))
 have hk₅ : ∀ c o, c ≠ z → c ≠ TO → c ≠ i1 → c ≠ i2 → s.heap.get? c = some o → h₅.get? c = some o := fun c o c1 c2 c3 c4 e =>
  hs₅.extBut _ _ c2 (hs₄.extBut _ _ c4 (hs₃.extBut _ _ c2 (hs₂.extBut _ _ c3 (hs₁.extBut _ _ c1 e))))
 have h1₅ : h₅.IsListIter i1 l1 (k1 + 1) := ((h1₂.extBut hs₃.extBut D.TOi1.symm).extBut hs₄.extBut D.i12).extBut hs₅.extBut D.TOi1.symm
 have h2₅ : IsTupIter h₅ i2 l2 (k2 + 1) := Jt h2₄ fun o e => hs₅.extBut _ _ D.TOi2.symm e
 have hzlt : z < h₅.objs.size := Heap.lt_size hz₅
 show wpAny _ _ (Builtin.SmallTypes.ownedTupleHandOut (.ref z) (.ref h₅.objs.size) >>= _) _ _ _
 refine wpAny_bind ?_
 unfold Builtin.SmallTypes.ownedTupleHandOut
 have hz₆ : IsZip (h₅.push { cls := .type "tuple", data := .seq #[x, y] }) z TI TO .ellipsis := Heap.get?_push_of_some _ hz₅
 refine wpAny_bind (wpAny_setField_rec hz₆ (by simp) fun h₇ hz₇ hs₇ => ?_)
 replace hz₇ : IsZip h₇ z TI TO (rawInt h₅.objs.size) := hz₇
 refine wpAny_setField_rec hz₇ (by simp) fun h₈ hz₈ hs₈ => ?_
 replace hz₈ : IsZip h₈ z TI TO (rawInt h₅.objs.size) := hz₈
 have up : ∀ c o, c ≠ z → h₅.get? c = some o → h₈.get? c = some o := fun c o c1 e => hs₈.extBut _ _ c1 (hs₇.extBut _ _ c1 (Heap.get?_push_of_some _ e))
 have hT₈ : IsPair h₈ h₅.objs.size x y := hs₈.extBut _ _ (Nat.ne_of_gt hzlt) (hs₇.extBut _ _ (Nat.ne_of_gt hzlt) (Heap.get?_push_size _ rfl))
 rw [hsz] at hz₈ hT₈
 refine wpAny_pure ⟨_, rfl, ?_⟩
 show Q (.ref h₅.objs.size) _
 rw [hsz]
 exact hQ h₈ hz₈ (up _ _ D.TOz hTO₅) (h1₅.at fun o e => up _ o D.i1z e) (Jt h2₅ fun o e => up _ o D.i2z e) hT₈ fun c o c1 c2 c3 c4 e => up c o c1 (hk₅ c o c1 c2 c3 c4 e)
theorem OO {z TI TO i1 i2 l1 l2 : Addr} {k1 k2 : Nat} {xs ys : Array Value} {a b : Value} {Q : Fin → Shared → Prop} (hh : A.handled = none) (D : ZipApart z TI TO i1 i2 l1 l2)
  (hz : IsZip s.heap z TI TO .none) (hTI : IsPair s.heap TI (.ref i1) (.ref i2)) (hTO : IsPair s.heap TO a b)
  (h1 : s.heap.IsListIter i1 l1 k1) (h2 : IsTupIter s.heap i2 l2 k2) (hl1 : s.heap.IsList l1 xs) (hl2 : IsTup s.heap l2 ys) (hend : xs[k1]? = none)
  (hE : ∀ h' e, KB [z, TO, i1, i2] s.heap h' → (∃ o, h'.get? e = some o ∧ o.cls = .type "StopIteration") → E (.ref e) { s with heap := h' }) :
  wpAny (model prog w) A (Builtin.«zip.__next__» ⟨[.ref z], []⟩) Q E s := by
 show wpAny _ _ (field (.ref z) 2 >>= _) _ _ _
 refine wpAny_bind (wpAny_field hz rfl (x := .bool false) rfl ?_)
 show wpAny _ _ (field (.ref z) 3 >>= _) _ _ _
 refine wpAny_bind (wpAny_field hz rfl (x := .ref TI) rfl ?_)
 refine wpAny_bind (wpAny_seqItems hTI rfl ?_)
 show wpAny _ _ (Builtin.SmallTypes.ownedTupleIsFree (.ref z) >>= _) _ _ _
 refine wpAny_bind ?_
 unfold Builtin.SmallTypes.ownedTupleIsFree
 refine wpAny_bind (wpAny_field hz rfl (x := .none) rfl (wpAny_pure ?_))
 simp only [if_true]
 refine wpAny_bind (wpAny_rule ?_)
 refine wpAny_bind (wpAny_field hz rfl (x := .ref TO) rfl ?_)
 refine wpAny_bind (wpAny_setField_rec hz (by simp) fun h₁ hz₁ hs₁ => ?_)
 replace hz₁ : IsZip h₁ z TI TO .ellipsis := hz₁
 refine wpAny_bind ?_
 simp only [List.zipIdx_cons, List.zipIdx_nil, List.forIn_cons, List.forIn_nil]
 refine wpAny_bind (wpAny_bind (wpAny_onRaise ?_))
 show wpAny _ _ (Builtin.SmallTypes.nextOf (.ref i1) >>= _) _ _ _
 have hnone : ∀ v, A.handled = some v → False := fun v e => by rw [hh] at e; cases e
 refine wpAny_bind (JT (fun v e => (hnone v e).elim) (fun v e => (hnone v e).elim) (h1.extBut hs₁.extBut D.i1z) (hl1.extBut hs₁.extBut D.l1z) hend fun h₂ e hs₂ he => ?_)
 obtain ⟨oe, hoe, hce⟩ := he
 have hz₂ : IsZip h₂ z TI TO .ellipsis := hs₂.1 _ _ (by simpa using D.i1z.symm) hz₁
 have hez : e ≠ z := fun x => by subst x; rw [hz₂] at hoe; cases hoe; simp at hce
 refine wpAny_setField_rec hz₂ (by simp) fun h₃ hz₃ hs₃ => hE h₃ e ⟨fun c o hc q => ?_, fun c hc => ?_⟩ ⟨oe, hs₃.extBut _ _ hez hoe, hce⟩
 ·simp at hc
  exact hs₃.extBut _ _ hc.1 (hs₂.1 _ _ (by simpa using hc.2.2.1) (hs₁.extBut _ _ hc.1 q))
 ·simp at hc
  rcases hc with rfl | rfl | rfl | rfl
  ·exact ⟨_, hz₃⟩
  ·exact ⟨_, hs₃.extBut _ _ D.TOz (hs₂.1 _ _ (by simpa using D.TOi1) (hs₁.extBut _ _ D.TOz hTO))⟩
  ·obtain ⟨o, e⟩ := hs₂.2 _ (.head _)
   exact ⟨_, hs₃.extBut _ _ D.i1z e⟩
  ·obtain ⟨o, e, _⟩ := h2
   exact ⟨_, hs₃.extBut _ _ D.i2z (hs₂.1 _ _ (by simpa using D.i12.symm) (hs₁.extBut _ _ D.i2z e))⟩
abbrev zipL1 (h : Heap) (l1 : Addr) : Heap := h.push { cls := .type "list_iterator", data := .fields #[.ref l1, .int 0 0] }
abbrev zipL2 (h : Heap) (l1 l2 : Addr) : Heap := (zipL1 h l1).push { cls := .type "tuple_iterator", data := .fields #[.ref l2, .int 0 0] }
abbrev zipL3 (h : Heap) (l1 l2 : Addr) : Heap := (zipL2 h l1 l2).push { cls := .type "tuple", data := .seq #[.ref h.objs.size, .ref (zipL1 h l1).objs.size] }
abbrev zipL4 (h : Heap) (l1 l2 : Addr) : Heap := (zipL3 h l1 l2).push { cls := .type "tuple", data := .seq #[.none, .none] }
abbrev zipL5 (h : Heap) (l1 l2 : Addr) : Heap := (zipL4 h l1 l2).push { cls := .type "zip", data := .fields #[.none, .bool false, .bool false, .ref (zipL2 h l1 l2).objs.size, .ref (zipL3 h l1 l2).objs.size] }
theorem Oc (l1 l2 : Addr) (xs ys : Array Value) :
  Meets (Builtin.«zip.__new__» ⟨[.type "zip", .ref l1, .ref l2], []⟩) (fun _ R s => s.heap.IsList l1 xs ∧ IsTup s.heap l2 ys ∧
   R (.ok (.ret (.ref (zipL4 s.heap l1 l2).objs.size))) { s with heap := zipL5 s.heap l1 l2 }) :=
 .of_wp fun prog w A R s h => by
  obtain ⟨hp, g, d, tk, os⟩ := s; obtain ⟨hl1, hl2, h⟩ := h
  have hsub := sub_zip
  have hL1 : Heap.IsList (Shared.heap ⟨hp, g, d, tk, os⟩) l1 xs := hl1
  have hL2 : IsTup (Shared.heap ⟨hp.push { cls := .type "list_iterator", data := .fields #[.ref l1, .int 0 0] }, g, d, tk, os⟩) l2 ys := IsTup.push hl2 _
  wp_walk using wpAny_pyIter_list hL1, iter_tuple hL2
  exact ⟨_, rfl, h⟩
theorem Dy {l1 l2 : Addr} {xs ys : Array Value} {Q : Value → Shared → Prop} (hl1 : s.heap.IsList l1 xs) (hl2 : IsTup s.heap l2 ys)
  (h : ∀ h', IsZip h' (s.heap.objs.size + 4) (s.heap.objs.size + 2) (s.heap.objs.size + 3) .none → IsPair h' (s.heap.objs.size + 2) (.ref s.heap.objs.size) (.ref (s.heap.objs.size + 1)) →
   IsPair h' (s.heap.objs.size + 3) .none .none → h'.IsListIter s.heap.objs.size l1 0 → IsTupIter h' (s.heap.objs.size + 1) l2 0 →
   (∀ c o, s.heap.get? c = some o → h'.get? c = some o) → Q (.ref (s.heap.objs.size + 4)) { s with heap := h' }) :
  wpAny (model prog w) A (call (.type "zip") [.ref l1, .ref l2]) Q E s := by
 refine callType_new F.called_zip (by decide) (F.typeCall_zip_2 _ _) (F.newCall_zip_2 _ _) (fun obj => F.args_object_init_3 obj _ _) F.entry_zip_new
  (Oc l1 l2 xs ys) ⟨hl1, hl2, ?_⟩
 have z1 : (zipL1 s.heap l1).objs.size = s.heap.objs.size + 1 := Heap.size_push ..
 have z2 : (zipL2 s.heap l1 l2).objs.size = s.heap.objs.size + 2 := by rw [Heap.size_push, z1]
 have z3 : (zipL3 s.heap l1 l2).objs.size = s.heap.objs.size + 3 := by rw [Heap.size_push, z2]
 have z4 : (zipL4 s.heap l1 l2).objs.size = s.heap.objs.size + 4 := by rw [Heap.size_push, z3]
 have g5 : (zipL5 s.heap l1 l2).get? (zipL4 s.heap l1 l2).objs.size = some _ := Heap.get?_push_size _ rfl
 have g4 : (zipL5 s.heap l1 l2).get? (zipL3 s.heap l1 l2).objs.size = some _ := Heap.get?_push_of_some _ (Heap.get?_push_size _ rfl)
 have g3 : (zipL5 s.heap l1 l2).get? (zipL2 s.heap l1 l2).objs.size = some _ := Heap.get?_push_of_some _ (Heap.get?_push_of_some _ (Heap.get?_push_size _ rfl))
 have g2 : (zipL5 s.heap l1 l2).get? (zipL1 s.heap l1).objs.size = some _ := Heap.get?_push_of_some _ (Heap.get?_push_of_some _ (Heap.get?_push_of_some _ (Heap.get?_push_size _ rfl)))
 have g1 : (zipL5 s.heap l1 l2).get? s.heap.objs.size = some _ := Heap.get?_push_of_some _ (Heap.get?_push_of_some _ (Heap.get?_push_of_some _ (Heap.get?_push_of_some _ (Heap.get?_push_size _ rfl))))
 show _ ∧ _
 rw [z2, z3, z4] at g5
 rw [z1, z2] at g3
 rw [z3] at g4
 rw [z1] at g2
 rw [z4]
 exact ⟨⟨_, g5, rfl⟩, h _ g5 g3 g4 ⟨_, g1, rfl, rfl⟩ ⟨_, g2, rfl, rfl⟩ fun c o x =>
  Heap.get?_push_of_some _ (Heap.get?_push_of_some _ (Heap.get?_push_of_some _ (Heap.get?_push_of_some _ (Heap.get?_push_of_some _ x))))⟩
end
end Mine
end

section
set_option Elab.async false
set_option maxRecDepth 100000
namespace Mine
open PySem PyProof.Rows
noncomputable def Wm (t : AEnv → Res Bool) (i j : Nat) : List D → List D → AEnv → Res Fl
 | x :: xs, y :: ys, ρ => match t ((ρ.set i (some (.sh x))).set j (some (.sh y))) with
  | .ok false _ => Wm t i j xs ys ((ρ.set i (some (.sh x))).set j (some (.sh y)))
  | _ => .stuck
 | _, _, ρ => .ok .next ρ
noncomputable def Br (i j : Nat) (f g : AEnv → Res T) (t : AEnv → Res Bool) : AEnv → Res Fl := fun ρ => (f ρ).bind fun a ρ₁ => (g ρ₁).bind fun b ρ₂ => match a.val, b.val with
 | .list xs, .tup ys => if Za ρ₂ = true ∧ xs.length = ys.length then Wm t i j xs ys ρ₂ else .stuck
 | _, _ => .stuck
noncomputable def ZSt (z TI TO i1 i2 l1 l2 : Addr) (k : Nat) (h : Heap) : Prop := IsZip h z TI TO .none ∧ IsPair h TI (.ref i1) (.ref i2) ∧ (∃ a b, IsPair h TO a b) ∧ h.IsListIter i1 l1 k ∧ IsTupIter h i2 l2 k
theorem ZSt.ext {z TI TO i1 i2 l1 l2 : Addr} {k : Nat} {S S' : Addr → Prop} {h h' : Heap} (q : ZSt z TI TO i1 i2 l1 l2 k h) (x : Ext S h S' h') : ZSt z TI TO i1 i2 l1 l2 k h' := by
 obtain ⟨a, b, ⟨c, d, e⟩, ⟨o1, f1, f2, f3⟩, ⟨o2, g1, g2, g3⟩⟩ := q
 exact ⟨x.exact a (.inr (.inr ⟨_, rfl⟩)) (.fields rfl), x.exact b (.inr (.inl ⟨rfl, _, _, rfl⟩)) (.seq rfl), ⟨c, d, x.exact e (.inr (.inl ⟨rfl, _, _, rfl⟩)) (.seq rfl)⟩, ⟨o1, x.exact f1 (.inr (.inr ⟨_, f3⟩)) (.fields f3), f2, f3⟩, ⟨o2, x.exact g1 (.inr (.inr ⟨_, g3⟩)) (.fields g3), g2, g3⟩⟩
theorem ZSt.shape {z TI TO i1 i2 l1 l2 : Addr} {k : Nat} {h : Heap} (q : ZSt z TI TO i1 i2 l1 l2 k h) : ∀ b ∈ [z, TO, i1, i2], ∃ o, h.get? b = some o ∧ XK o ∧ ∀ v, o.data ≠ .cell v := by
 obtain ⟨a, b, ⟨c, d, e⟩, ⟨o1, f1, f2, f3⟩, ⟨o2, g1, g2, g3⟩⟩ := q
 intro y hy
 simp only [List.mem_cons, List.not_mem_nil, or_false] at hy
 rcases hy with rfl | rfl | rfl | rfl
 ·exact ⟨_, a, .fields rfl, fun v q => by cases q⟩
 ·exact ⟨_, e, .seq rfl, fun v q => by cases q⟩
 ·exact ⟨_, f1, .fields f3, fun v q => by rw [f3] at q; cases q⟩
 ·exact ⟨_, g1, .fields g3, fun v q => by rw [g3] at q; cases q⟩
section
variable {G : Gd} {k : Nat} {sc : Scope}
theorem CA {ρ : AEnv} {i j l : Nat} {a b : Option T} (h1 : l ≠ i) (h2 : l ≠ j) : ((ρ.set i a).set j b)[l]? = ρ[l]? := by
 rw [List.getElem?_set_ne (Ne.symm h2), List.getElem?_set_ne (Ne.symm h1)]
theorem OC {ρ : AEnv} {i : Nat} {a : T} {d : T} (h : (ρ.set i (some a))[i]? = some (some d)) : d = a := by
 by_cases hl : i < ρ.length
 ·rw [List.getElem?_set_self hl] at h; cases h; rfl
 ·rw [List.getElem?_eq_none (by rw [List.length_set]; omega)] at h; cases h
theorem VO {cx : Cx} {h : Heap} : (Wo cx sc h).length = (Qf sc).length := List.length_map ..
theorem DH {x y : Str} {p py tp ipos : Pos} {n i j : Nat} {test : Expr} {body : List Stmt} {t : AEnv → Res Bool} {z TI TO i1 i2 l1 l2 : Addr} {cx : Cx} {S C : Addr → Prop} {s : Shared} {hb h₃ : Heap} {t₃ : Nat} {xs ys : List D} {us ws : Array Value} {m1 m2 : Nat} {o1 o2 : Obj} {ρ : AEnv} {Q : Flow → Shared → Prop} {E : Value → Shared → Prop}
  (ok : CxOk G cx sc k) (fn : FnOk G cx) (hh : cx.A.handled = none) (hcl : (Qf sc).all (fun x => !Xb x) = true) (ht : YD G k sc test t)
  (hx : (Qf sc)[i]? = some x) (hy : (Qf sc)[j]? = some y) (hij : i ≠ j) (hlx : sc.names.lookup x = some .local ∨ sc.names.lookup x = some .cell) (hly : sc.names.lookup y = some .local ∨ sc.names.lookup y = some .cell)
  (D : ZipApart z TI TO i1 i2 l1 l2) (nw : ∀ b ∈ [z, TO, i1, i2], hb.get? b = none) (rb : Rel G cx sc ρ C hb) (e1 : hb.get? l1 = some o1) (e2 : o1.cls = .type "list") (e3 : o1.data = .seq us m1) (hs1 : C l1) (q1 : RVs C hb us.toList xs)
  (g1 : hb.get? l2 = some o2) (g2 : o2.cls = .type "tuple") (g3 : o2.data = .seq ws m2) (q2 : RVs C hb ws.toList ys) (hlen : xs.length = ys.length)
  (xx : Ext S s.heap C hb) (x₃ : Ext C hb C h₃) (r₃ : Rel G cx sc [] C h₃) (hd : Kr cx sc ρ h₃ C hb) (hsh : Za ρ = true) (st : ZSt z TI TO i1 i2 l1 l2 0 h₃)
  (out : Out G cx sc false S s (fun S' h' a b => FlJ cx S' h' a b) Q E (Wm t i j xs ys ρ)) :
  codeAny G.M cx.A (.forLoop (.Tuple [.Name x p, .Name y py] n tp) (.ref z) [.If test body [] ipos] [] cx.env) (fun r s' => match r with | .ok f => Q f s' | .error e => cameBackBy G.M cx.A cx.env E e s') { s with heap := h₃, toks := t₃ } := by
 have cl : ∀ (l : Nat) (w : Str), (Qf sc)[l]? = some w → Xb w = false := fun l w hw => by
  have := List.all_eq_true.mp hcl w (List.mem_of_getElem? hw)
  simpa using this
 have hn : ∀ w ∈ [x, y], Jx cx sc w := fun w hw => by
  have : sc.names.lookup w = some .local ∨ sc.names.lookup w = some .cell := by
   rcases List.mem_cons.mp hw with rfl | hw
   ·exact hlx
   ·rw [List.mem_singleton.mp hw]; exact hly
  exact this.imp id fun q => ⟨q, fn.has w (by unfold Env.kindOf; rw [ok.hsc]; exact q)⟩
 have new : ∀ b ∈ [z, TO, i1, i2], cx.h₀.get? b = none ∧ G.B.get? b = none := fun b hm => ⟨rb.keep.none (nw b hm), by
  cases q : G.B.get? b with
  | none => rfl
  | some o => have := rb.base b o q; rw [nw b hm] at this; cases this⟩
 have hus : us.size = xs.length := by rw [← q1.length]; exact Array.length_toList.symm
 have hws : ws.size = ys.length := by rw [← q2.length]; exact Array.length_toList.symm
 have hj : j < (Qf sc).length := (List.getElem?_eq_some_iff.mp hy).1
 have hi : i < (Qf sc).length := (List.getElem?_eq_some_iff.mp hx).1
 obtain ⟨Inv, hI⟩ : ∃ Inv : Nat → Shared → Prop, ∀ m s', Inv m s' ↔ ∃ c ρ' h' tk, m = xs.length + 1 - c ∧ c ≤ xs.length ∧ s' = { s with heap := h', toks := tk } ∧ Rel G cx sc [] C h' ∧ Ext C hb C h' ∧ Kr cx sc ρ' h' C hb ∧ Za ρ' = true ∧ ZSt z TI TO i1 i2 l1 l2 c h' ∧ Out G cx sc false S s (fun S' h' a b => FlJ cx S' h' a b) Q E (Wm t i j (xs.drop c) (ys.drop c) ρ') := ⟨_, fun _ _ => Iff.rfl⟩
 refine codeAny_forLoop_any Inv ?_ (xs.length + 1) ((hI _ _).mpr ⟨0, ρ, h₃, t₃, rfl, Nat.zero_le _, rfl, r₃, x₃, hd, hsh, st, out⟩)
 generalize (notedBy G.M cx.A cx.env fun e s' => cameBackBy G.M cx.A cx.env E e s') = EN
 intro m s' hinv
 obtain ⟨c, ρ', h', tk, rfl, hc, rfl, r', x', hd', hsh', st', out'⟩ := (hI _ _).mp hinv
 have st0 := st'
 obtain ⟨hz, hTI, ⟨a, b, hTO⟩, hi1, hi2⟩ := st0
 have hl1 : h'.IsList l1 us := ⟨o1, x'.exact e1 (.inl hs1) (.seq e3), e2, m1, e3⟩
 have hl2 : IsTup h' l2 ws := ⟨o2, x'.exact g1 (.inr (.inl ⟨g2, _, _, g3⟩)) (.seq g3), g2, m2, g3⟩
 have hT : Shared.TypeIs { s with heap := h', toks := tk } (.ref z) "zip" := ⟨_, hz, rfl⟩
 by_cases hlt : c < xs.length
 ·have hd1 : xs[c]? = some xs[c] := List.getElem?_eq_getElem hlt
  have hlt2 : c < ys.length := hlen ▸ hlt
  have hd2 : ys[c]? = some ys[c] := List.getElem?_eq_getElem hlt2
  rw [X8 hd1, X8 hd2] at out'
  generalize xs[c] = dx at hd1 out'
  generalize ys[c] = dy at hd2 out'
  have out' : Out G cx sc false S s (fun S' h' a b => FlJ cx S' h' a b) Q E (match t ((ρ'.set i (some (.sh dx))).set j (some (.sh dy))) with
   | .ok false _ => Wm t i j (xs.drop (c + 1)) (ys.drop (c + 1)) ((ρ'.set i (some (.sh dx))).set j (some (.sh dy)))
   | _ => .stuck) := out'
  obtain ⟨ρ₂, hρ₂⟩ : ∃ ρ₂, ρ₂ = (ρ'.set i (some (.sh dx))).set j (some (.sh dy)) := ⟨_, rfl⟩
  rw [← hρ₂] at out'
  cases htr : t ρ₂ with
  | stuck => rw [htr] at out'; exact out'.elim
  | exc C' ρ₃ => rw [htr] at out'; exact out'.elim
  | ok bb ρ₃ =>
  cases bb with
  | true => rw [htr] at out'; exact out'.elim
  | false =>
  rw [htr] at out'
  obtain ⟨vx, hvx, rvx⟩ := q1.get hd1
  obtain ⟨vy, hvy, rvy⟩ := q2.get hd2
  unfold pyNext
  refine wpAny_bind (wpAny_attempt (wpAny_callSpecial?_slot (name := Str.ofString "__next__") hT F.slot_zip_next
   (wpAny_call_entry F.slot_zip_next hT F.entry_zip_next (Oy D hz hTI hTO hi1 hi2 hl1 hl2 (by simpa using hvx) (by simpa using hvy) fun h₄ a1 a2 a3 a4 a5 a7 => wpAny_pure ?_) (F.args_zip_next_1 _))))
  refine wpAny_letOwnedTupleGo_zip (s := { s with heap := h₄, toks := tk }) a1 fun h₅ hz₅ hs₅ => ?_
  have ne : ∀ {b : Addr} {o : Obj}, h'.get? b = some o → h'.objs.size ≠ b := fun e => Nat.ne_of_gt (Heap.lt_size e)
  have kb : KB [z, TO, i1, i2] h' h₅ := by
   refine ⟨fun b o hb' eb => ?_, fun b hb' => ?_⟩
   ·simp only [List.mem_cons, List.not_mem_nil, or_false, not_or] at hb'
    exact hs₅.extBut b o hb'.1 (a7 b o hb'.1 hb'.2.1 hb'.2.2.1 hb'.2.2.2 eb)
   ·simp only [List.mem_cons, List.not_mem_nil, or_false] at hb'
    rcases hb' with rfl | rfl | rfl | rfl
    ·exact ⟨_, hz₅⟩
    ·exact ⟨_, hs₅.extBut _ _ D.TOz a2⟩
    ·obtain ⟨o, e, _⟩ := a3; exact ⟨o, hs₅.extBut _ _ D.i1z e⟩
    ·obtain ⟨o, e, _⟩ := a4; exact ⟨o, hs₅.extBut _ _ D.i2z e⟩
  obtain ⟨r₅, v₅⟩ := r'.turnNil hh new st'.shape kb
  have x₅ := x'.aside nw kb
  have st₅ : ZSt z TI TO i1 i2 l1 l2 (c + 1) h₅ := ⟨hz₅, kb.1 _ _ (by simp; exact ⟨D.TIz, D.TITO, D.TIi1, D.TIi2⟩) hTI, ⟨_, _, hs₅.extBut _ _ D.TOz a2⟩, a3.extBut hs₅.extBut D.i1z, Jt a4 fun o e => hs₅.extBut _ _ D.i2z e⟩
  have hT₅ : IsPair h₅ h'.objs.size vx vy := hs₅.extBut _ _ (ne hz) a5
  have lv : ∀ {v : Value} {d : Mine.D}, RV C hb v d → ∀ a, v = .ref a → ∃ o, h₅.get? a = some o := fun q a e => let ⟨o, e'⟩ := q.live a e; x₅.dom a o e'
  refine UV (.cons hx (.cons hy .nil)) cx k ok fn.toFnCx hn (Wo cx sc h₅) C { s with heap := h₅, toks := tk } (.ref h'.objs.size) (.tup [.glob vx, .glob vy]) _ r₅.pin (.tup hT₅ rfl rfl (.cons (.glob _ (lv rvx)) (.cons (.glob _ (lv rvy)) .nil))) rfl _ _ ?_
  intro _ h₆ t₆ S₆ r₆ _ x₆ _
  have x₆' : Ext C hb C h₆ := (x₅.trans x₆).shrink fun _ q => q
  have hlp : (Wo cx sc h₅).length = (Qf sc).length := VO
  have hd₆ : Kr cx sc ρ₂ h₆ C hb := fun l w d hw hl => by
   rw [hρ₂] at hl
   by_cases hlj : l = j
   ·subst hlj
    rw [hy] at hw; cases hw
    obtain rfl := T.sh.inj (OC hl)
    exact ⟨vy, r₆.unpin hy (List.getElem?_set_self (by rw [List.length_set, hlp]; exact hj)), rvy⟩
   ·rw [List.getElem?_set_ne (Ne.symm hlj)] at hl
    by_cases hli : l = i
    ·subst hli
     rw [hx] at hw; cases hw
     obtain rfl := T.sh.inj (OC hl)
     exact ⟨vx, r₆.unpin hx (by rw [List.getElem?_set_ne (Ne.symm hij)]; exact List.getElem?_set_self (by rw [hlp]; exact hi)), rvx⟩
    ·rw [List.getElem?_set_ne (Ne.symm hli)] at hl
     obtain ⟨v, hv, rv⟩ := hd' l w d hw hl
     exact ⟨v, r₆.unpin hw (by rw [CA hli hlj]; exact KI hw (cl l w hw) (v₅ _ _ hv)), rv⟩
  have hsh₂ : Za ρ₂ = true := by rw [hρ₂]; exact Jn (Jn hsh' _ _) _ _
  have r₇ : Rel G cx sc ρ₂ C h₆ := r₆.remake x₆.sub hsh₂ (hd₆.ext x₆')
  rw [execs_cons]
  refine wpAny_bind ?_
  rw [exec_If]
  refine wpAny_bind (wpAny_standAt (wpAny_bind (ht cx ok ρ₂ C { s with heap := h₆, toks := t₆ } r₇ _ _ ?_)))
  rw [htr]
  intro bb h₈ t₈ S₈ r₈ jb x₈ v₈
  subst jb
  refine wpAny_execs_nil (env := cx.env) (wpAny_execs_nil (env := cx.env) ?_)
  exact ⟨xs.length + 1 - (c + 1), by omega, (hI _ _).mpr ⟨c + 1, ρ₂, h₈, t₈, rfl, hlt, rfl, r₈.nil x₈.sub, (x₆'.trans x₈).shrink fun _ q => q, hd₆.same (v₈ rfl), hsh₂, (st₅.ext x₆).ext x₈, out'⟩⟩
 ·have hce : c = xs.length := by omega
  subst hce
  rw [List.drop_length, hlen, List.drop_length] at out'
  unfold pyNext
  refine wpAny_bind (wpAny_attempt (wpAny_callSpecial?_slot (name := Str.ofString "__next__") hT F.slot_zip_next
   (wpAny_call_entry F.slot_zip_next hT F.entry_zip_next (OO hh D hz hTI hTO hi1 hi2 hl1 hl2 (Array.getElem?_eq_none (by omega)) fun h₄ e kb he => ?_) (F.args_zip_next_1 _))))
  obtain ⟨oe, he, hce⟩ := he
  refine wpAny_bind (wpAny_isInstance (T := "StopIteration") (b := true) ⟨_, he, hce⟩ isSubtype_stop (wpAny_pure ?_))
  obtain ⟨r₅, v₅⟩ := r'.turnNil hh new st'.shape kb
  have x₅ := x'.aside nw kb
  exact wpAny_execs_nil (out' .next h₄ tk C (r₅.remake (fun _ q => q) hsh' ((hd'.same v₅).ext x₅)) trivial (xx.trans x₅) fun q => by cases q)
set_option tactic.hygienic true in
theorem DC {x y : Str} {p py tp zp pos1 ipos pos : Pos} {n i j : Nat} {e1 e2 test : Expr} {body : List Stmt} {f g : AEnv → Res T} {t : AEnv → Res Bool} (hq : G.quiet = true) (hcl : (Qf sc).all (fun x => !Xb x) = true)
  (hn : Sim G k sc (.Name "zip" zp) (Qd (.glob (.type "zip")))) (h1 : Sim G k sc e1 f) (h2 : Sim G k sc e2 g) (hu1 : QU e1 = true) (hu2 : QU e2 = true) (ht : YD G k sc test t)
  (hx : (Qf sc)[i]? = some x) (hy : (Qf sc)[j]? = some y) (hij : i ≠ j) (hlx : sc.names.lookup x = some .local ∨ sc.names.lookup x = some .cell) (hly : sc.names.lookup y = some .local ∨ sc.names.lookup y = some .cell)
  (hs : ∀ env v, foldedSetIterable (.Call (.Name "zip" zp) [e1, e2] [] pos1) env v = pure v) :
  Yk G k sc (.For (.Tuple [.Name x p, .Name y py] n tp) (.Call (.Name "zip" zp) [e1, e2] [] pos1) [.If test body [] ipos] [] pos) (Br i j f g t) := by
 intro cx ok fn ρ S s r Q E out
 have hh : cx.A.handled = none := ok.hd hq
 refine wpAny_For ?_ (hs cx.env)
 show wpAny G.M cx.A (do callWith pos1 (← eval (.Name "zip" zp) cx.env) [] (backTo pos1 (starEach [e1, e2] cx.env)) []) _ E s
 refine wpAny_bind (hn cx ok ρ S s r _ _ ?_)
 intro v h₀ t₀ S₀ r₀ j₀ x₀ v₀
 have hv : v = .type "zip" := by cases j₀; rfl
 subst hv
 have hu : [e1, e2].all QU = true := by rw [List.all_cons, List.all_cons, hu1, hu2]; rfl
 refine YW (fun a q => by cases q) (JJ [e1, e2] hu) (X5 hu ?_)
 rw [ZP hu1]
 refine wpAny_bind ((h1 cx ok ρ S₀ { s with heap := h₀, toks := t₀ } r₀).shared _ _ ?_)
 unfold Br at out
 cases hf : f ρ with
 | stuck => rw [hf] at out; exact out.elim
 | exc C ρ₁ => rw [hf] at out; intro e h₁ t₁ S₁ r₁ f₁ x₁; exact out e h₁ t₁ S₁ r₁ (f₁.back x₀) (x₀.trans x₁)
 | ok a ρ₁ =>
 rw [hf] at out
 intro v1 h₁ t₁ S₁ r₁ j₁ x₁ v₁
 refine wpAny_bind (wpAny_pure (wpAny_bind (wpAny_holding ?_)))
 rw [ZP hu2]
 refine wpAny_bind ((h2 cx ok ρ₁ S₁ { s with heap := h₁, toks := t₁ } r₁).shared _ _ ?_)
 replace out : Out G cx sc false S s (fun S' h' a b => FlJ cx S' h' a b) Q E ((g ρ₁).bind fun b ρ₂ => match a.val, b.val with
  | .list xs, .tup ys => if Za ρ₂ = true ∧ xs.length = ys.length then Wm t i j xs ys ρ₂ else .stuck
  | _, _ => .stuck) := out
 cases hg : g ρ₁ with
 | stuck => rw [hg] at out; exact out.elim
 | exc C ρ₂ => rw [hg] at out; intro e h₂ t₂ S₂ r₂ f₂ x₂; exact out e h₂ t₂ S₂ r₂ (f₂.back (x₀.trans x₁)) ((x₀.trans x₁).trans x₂)
 | ok b ρ₂ =>
 rw [hg] at out
 intro v2 h₂ t₂ S₂ r₂ j₂ x₂ v₂
 refine wpAny_bind (wpAny_pure (wpAny_bind (wpAny_holding (wpAny_pure (wpAny_pure (wpAny_pure ?_))))))
 replace out : Out G cx sc false S s (fun S' h' a b => FlJ cx S' h' a b) Q E (match a.val, b.val with
  | .list xs, .tup ys => if Za ρ₂ = true ∧ xs.length = ys.length then Wm t i j xs ys ρ₂ else .stuck
  | _, _ => .stuck) := out
 replace j₁ : RV S₁ h₁ v1 a.val := j₁
 replace j₂ : RV S₂ h₂ v2 b.val := j₂
 cases hav : a.val with
 | list xs =>
  cases hbv : b.val with
  | tup ys =>
   rw [hav, hbv] at out
   rw [hav] at j₁
   rw [hbv] at j₂
   replace j₁ := j₁.ext x₂
   replace out : Out G cx sc false S s (fun S' h' a b => FlJ cx S' h' a b) Q E (if Za ρ₂ = true ∧ xs.length = ys.length then Wm t i j xs ys ρ₂ else .stuck) := out
   by_cases hsh : Za ρ₂ = true ∧ xs.length = ys.length
   ·rw [if_pos hsh] at out
    obtain ⟨hsh, hlen⟩ := hsh
    cases j₁ with
    | list hs1 e1 e2 e3 q1 =>
    rename_i l1 o1 us m1
    cases j₂ with
    | tup g1 g2 g3 q2 =>
    rename_i l2 o2 ws m2
    have xx := (x₀.trans x₁).trans x₂
    have lt1 := Heap.lt_size e1
    have lt2 := Heap.lt_size g1
    refine Dy (s := { s with heap := h₂, toks := t₂ }) ⟨o1, e1, e2.1, m1, e3⟩ ⟨o2, g1, g2, m2, g3⟩ fun h₃ hz hTI hTO hit1 hit2 hk => ?_
    refine wpAny_pyIter_zip hz ?_
    have D : ZipApart (h₂.objs.size + 4) (h₂.objs.size + 2) (h₂.objs.size + 3) h₂.objs.size (h₂.objs.size + 1) l1 l2 := by
     exact zipApart_new lt1 lt2
    have hnew : ∀ m, h₂.get? (h₂.objs.size + m) = none := fun m => Heap.get?_none_of_le (Nat.le_add_right _ _)
    obtain ⟨r₃, x₃, v₃⟩ := r₂.keepsE hk
    refine DH (s := s) ok fn hh hcl ht hx hy hij hlx hly D (fun b hb => ?_) r₂ e1 e2.1 e3 hs1 q1 g1 g2 g3 q2 hlen xx x₃ (r₃.nil fun _ q => q) (r₂.held.same v₃) hsh ⟨hz, hTI, ⟨_, _, hTO⟩, hit1, hit2⟩ out
    simp only [List.mem_cons, List.not_mem_nil, or_false] at hb
    rcases hb with rfl | rfl | rfl | rfl
    ·exact hnew 4
    ·exact hnew 3
    ·exact hnew 0
    ·exact hnew 1
   ·rw [if_neg hsh] at out; exact out.elim
  | _ => rw [hav, hbv] at out; exact out.elim
 | _ => rw [hav] at out; cases hbv : b.val <;> (rw [hbv] at out; exact out.elim)
end
end Mine
end

section
set_option Elab.async false
set_option maxRecDepth 100000
namespace Mine
open PySem PyProof.Rows
noncomputable def Cb : D → Bool
 | .tup _ => true
 | _ => false
mutual
noncomputable def YX : D → Bool
 | .list ds => ds.all Cb && ZA ds
 | .tup ds => ZA ds
 | .obj _ _ ds => ZA ds
 | _ => true
noncomputable def ZA : List D → Bool
 | [] => true
 | d :: ds => YX d && ZA ds
end
noncomputable def DA (h : Heap) (b : Addr) : Prop := ∀ o us n, h.get? b = some o → o.data = .seq us n → ∀ v ∈ us.toList, ∃ c, v = .ref c
theorem Dr {S : Addr → Prop} {h : Heap} {a : Addr} {o : Obj} {vs : Array Value} {n : Nat} {ds : List D} (e : h.get? a = some o) (hd : o.data = .seq vs n) (q : RVs S h vs.toList ds) (hi : ds.all Cb = true) : DA h a := fun o' us n' e' hd' v hv => by
 rw [e] at e'; cases e'
 rw [hd] at hd'; cases hd'
 obtain ⟨d, hm, rv⟩ := q.mem hv
 have := List.all_eq_true.mp hi d hm
 cases d with
 | tup es => cases rv; exact ⟨_, rfl⟩
 | _ => cases this
theorem RVs.small {S : Addr → Prop} {h : Heap} {vs : List Value} {ds : List D} (q : RVs S h vs ds) : ZA ds = true → RVs (fun b => S b ∧ DA h b) h vs ds :=
 RVs.rec (motive_1 := fun v d _ => YX d = true → RV (fun b => S b ∧ DA h b) h v d) (motive_2 := fun vs ds _ => ZA ds = true → RVs (fun b => S b ∧ DA h b) h vs ds) (fun _ => .none) (fun b _ => .bool b) (fun i t _ => .int i t) (fun y t _ => .str y t) (fun e hc hd _ r q => .tup e hc hd (r (by rw [YX] at q; exact q)))
  (fun hs e hc hd rv r q => by rw [YX] at q; obtain ⟨q1, q2⟩ := Bool.and_eq_true_iff.mp q; exact .list ⟨hs, Dr e hd rv q1⟩ e hc hd (r q2)) (fun e _ => .range e) (fun e hc hn hd r _ => .exc e hc hn hd r) (fun v hv _ => .glob v hv)
  (fun s1 s2 e n hm _ r q => .obj ⟨s1, fun o us m e' hd' => by rw [e] at e'; cases e'; cases hd'⟩ ⟨s2, fun o us m e' hd' => by obtain ⟨o', es, ep, ho, hd, _⟩ := n; rw [ho] at e'; cases e'; rw [hd] at hd'; cases hd'⟩ e n hm (r (by rw [YX] at q; exact q))) (fun _ => .nil)
  (fun _ _ a b e => by rw [ZA] at e; obtain ⟨e1, e2⟩ := Bool.and_eq_true_iff.mp e; exact .cons (a e1) (b e2)) q
set_option tactic.hygienic true in
theorem RVs.intsAny {S S' : Addr → Prop} {h h' : Heap} {vs : List Value} : ∀ {ds : List D}, RVs S h vs ds → ds.all VU = true → RVs S' h' vs ds := by
 induction vs with
 | nil => intro ds q _; cases q; exact .nil
 | cons v vs ih =>
  intro ds q hi
  cases q with
  | cons q r =>
   rw [List.all_cons, Bool.and_eq_true_iff] at hi
   rename_i d ds
   cases d with
   | int i => cases q; exact .cons (.int _ _) (ih r hi.2)
   | _ => cases hi.1
section
variable {G : Gd} {cx : Cx} {sc : Scope} {ρ : AEnv} {i : Nat} {x : Str} {C Sp : Addr → Prop} {hc hb h h' : Heap} {t : Addr}
structure NInv (G : Gd) (cx : Cx) (sc : Scope) (ρ : AEnv) (i : Nat) (x : Str) (C : Addr → Prop) (hc : Heap) (Sp : Addr → Prop) (hb : Heap) (t : Addr) (h : Heap) : Prop where
 r : Rel G cx sc [] Sp h
 xp : Ext Sp hb Sp h
 xc : Ext C hc C h
 hd : Kr cx sc (ρ.set i none) h C hc
 vx : Var cx.env h x (.ref t)
theorem NInv.step {ρ' : AEnv} {S' : Addr → Prop} (q : NInv G cx sc ρ i x C hc Sp hb t h) (hCS : ∀ b, C b → Sp b) (r' : Rel G cx sc ρ' S' h') (e : Ext Sp h S' h') (v : Qv cx.env h h') : NInv G cx sc ρ i x C hc Sp hb t h' :=
 ⟨r'.nil e.sub, (q.xp.trans e).shrink fun _ z => z, q.xc.trans (e.shrink hCS), q.hd.same v, v _ _ q.vx⟩
theorem NInv.read (q : NInv G cx sc ρ i x C hc Sp hb t h) (hCS : ∀ b, C b → Sp b) (ha : Za ρ = true) (hx : (Qf sc)[i]? = some x) {d : D} (rv : RV Sp hb (.ref t) d) : Rel G cx sc (ρ.set i (some (.sh d))) Sp h :=
 q.r.remake (fun _ z => z) (Jn ha _ _) fun l y e hy hl => by
  by_cases hli : l = i
  ·subst hli
   rw [hx] at hy; cases hy
   obtain rfl := T.sh.inj (OC hl)
   exact ⟨_, q.vx, rv.ext q.xp⟩
  ·rw [List.getElem?_set_ne (Ne.symm hli)] at hl
   obtain ⟨v, hv, rv'⟩ := q.hd l y e hy (by rw [List.getElem?_set_ne (Ne.symm hli)]; exact hl)
   exact ⟨v, hv, (rv'.ext q.xc).ext (Ext.grow hCS)⟩
theorem Bn {l : Nat} {m : T} (h : (ρ.set l none)[l]? = some (some m)) : False := by
 by_cases hl : l < ρ.length
 ·rw [List.getElem?_set_self hl] at h; cases h
 ·rw [List.getElem?_eq_none (by rw [List.length_set]; exact Nat.not_lt.mp hl)] at h; cases h
theorem DG {S₂ S₃ : Addr → Prop} {h₂ h₃ : Heap} {a : Addr} {oa : Obj} {va : Array Value} {na : Nat} {ks : List D} (sd : ∀ b, S₂ b → ∃ o, h₂.get? b = some o) (kp : Kp h₂ h₃) (new : ∀ b, S₃ b → (S₂ b ∧ DA h₂ b) ∨ h₂.get? b = none) (hs : S₃ a) (ea : h₃.get? a = some oa) (da : oa.data = .seq va na) (qa : RVs S₃ h₃ va.toList ks) (h0 : ks ≠ []) (hi : ks.all VU = true) : h₂.get? a = none := by
 rcases new a hs with ⟨hS, hR⟩ | q
 ·exfalso
  obtain ⟨o, eo⟩ := sd a hS
  obtain ⟨sl, e', _⟩ := kp a o eo
  rw [ea] at e'
  have hd : o.data = .seq va na := by
   have := congrArg Obj.data (Option.some.inj e')
   exact this.symm.trans da
  cases ks with
  | nil => exact h0 rfl
  | cons k ks =>
   generalize hv : va.toList = vl at qa
   cases qa with
   | cons q _ =>
    obtain ⟨c, hc⟩ := hR o va na eo hd _ (by rw [hv]; exact .head _)
    subst hc
    cases k with
    | int i => cases q
    | _ => cases (List.all_eq_true.mp hi _ (.head _))
 ·exact q
end
noncomputable def VI (i j : Nat) (F : List D → FOut) (fa : AEnv → Res (List Bv)) (t3 t4 tg : AEnv → Res Bool) (fk : AEnv → Res T) (fr : AEnv → Res Fl) (ρ : AEnv) : Prop :=
 ∃ (bs : List Bv) (ds : List D) (w : Str) (ks : List D) (ρ₃ ρ₄ ρ₅ ρ₆ ρ₇ : AEnv), (Za ρ = true ∧ fa ρ = .ok bs ρ ∧ XM ρ bs = some ds ∧ bs.all (ZQ ρ) = true) ∧ (ZA ds = true ∧ F ds = .ok (.sh (.tup [.str w, .list ks])) ∧ ks ≠ [] ∧ ks.all VU = true ∧ ks.length ≤ 1000000) ∧
  t3 (ρ.set i (some (.sh (.tup [.str w, .list ks])))) = .ok false ρ₃ ∧ t4 (ρ.set i (some (.sh (.tup [.str w, .list ks])))) = .ok true ρ₄ ∧ tg (ρ.set i (some (.sh (.tup [.str w, .list ks])))) = .ok false ρ₅ ∧ fk (ρ.set i (some (.sh (.tup [.str w, .list ks])))) = .ok (.ow true (.list ks)) ρ₆ ∧ fr ((ρ.set i none).set j (some (.sh (.list ks)))) = .ok (.ret (.sh (.bool true))) ρ₇
open Classical in
noncomputable def Vy (i j : Nat) (F : List D → FOut) (fa : AEnv → Res (List Bv)) (t3 t4 tg : AEnv → Res Bool) (fk : AEnv → Res T) (fr ord : AEnv → Res Fl) : AEnv → Res Fl := fun ρ => if VI i j F fa t3 t4 tg fk fr ρ then .ok (.ret (.sh (.bool true))) [] else ord ρ
section
variable {G : Gd} {k : Nat} {sc : Scope}
theorem Bk {sts : List Stmt} : YI G k sc sts fun _ => .stuck := fun _ _ _ _ _ _ _ _ _ out => out.elim
theorem Zu {st : Stmt} : Yk G k sc st fun _ => .stuck := fun _ _ _ _ _ _ _ _ _ out => out.elim
theorem Fa {cx : Cx} {h : Heap} {i : Nat} {x : Str} {d0 d1 : D} (hx : (Qf sc)[i]? = some x) : Qp QZ (eOp i) (Qc (Qd (.int 1))) ((Wo cx sc h).set i (some (.sh (.tup [d0, d1])))) = .ok (.sh d1) ((Wo cx sc h).set i (some (.sh (.tup [d0, d1])))) := by
 have hl : ((Wo cx sc h).set i (some (T.sh (.tup [d0, d1]))))[i]? = some (some (.sh (.tup [d0, d1]))) := List.getElem?_set_self (by rw [VO]; exact (List.getElem?_eq_some_iff.mp hx).1)
 generalize (Wo cx sc h).set i (some (T.sh (.tup [d0, d1]))) = ρs at hl
 have h1 : eOp i ρs = .ok (.var i) ρs := by conv => lhs; whnf; rw [hl]
 have h2 : Bv.get ρs (.var i) = some (.tup [d0, d1]) := by conv => lhs; whnf; rw [hl]; whnf
 unfold Qp
 rw [h1]
 show (match Bv.get ρs (.var i), Bv.get ρs (.val (.int 1)) with
  | some x, some y => (match QZ x y with | some t => Res.ok t ρs | none => .stuck)
  | _, _ => .stuck) = _
 rw [h2]
 rfl
set_option tactic.hygienic true in
theorem BL {x y g : Str} {xp xq gp cpos pos p3 p4 pg yp kp sp ap ep ap2 rp' : Pos} {i j : Nat} {a : Addr} {fo : Obj} {fd : FuncData} {F : List D → FOut} {args : List Expr} {fa : AEnv → Res (List Bv)} {k' ck zk : Nat} {cp zp : Pos} {test3 test4 testg ek : Expr} {b3 bg rest : List Stmt} {er : Option Expr} {t3 t4 tg : AEnv → Res Bool} {fk : AEnv → Res T} {fr ord : AEnv → Res Fl}
  (hq : G.quiet = true) (hcl : (Qf sc).all (fun x => !Xb x) = true)
  (hn : Sim G k sc (.Name g gp) (Qd (.glob (.ref a)))) (hfo : G.B.get? a = some fo) (hfd : fo.data = .func fd) (hF : Zt G k' (.ref a) F) (hk : k' ≤ k) (hargs : YH G k sc args fa) (hu : args.all QU = true)
  (hx : (Qf sc)[i]? = some x) (hlx : sc.names.lookup x = some .local ∨ sc.names.lookup x = some .cell) (hswx : ∀ env : Env, env.scope = sc → swapsWith (.Call (.Name g gp) args [] cpos) (some (.Name x xp)) pos.line env = pure false)
  (ht3 : YD G k sc test3 t3) (ht4 : YD G k sc test4 t4) (htg : YD G k sc testg tg) (hfk : Sim G k sc ek fk)
  (hy : (Qf sc)[j]? = some y) (hij : i ≠ j) (hly : sc.names.lookup y = some .local ∨ sc.names.lookup y = some .cell) (hswy : ∀ env : Env, env.scope = sc → swapsWith ek (some (.Name y yp)) kp.line env = pure false)
  (hsub : Sim G k sc (.Subscript (.Name x xq) (.Constant (.int 1) ck cp) sp) (Qp QZ (eOp i) (Qc (Qd (.int 1)))))
  (hswe : ∀ env : Env, swapsWith (.Call (.Attribute (.Subscript (.Name x xq) (.Constant (.int 1) ck cp) sp) "append" ap) [.Constant (.int 0) zk zp] [] ap2) none ep.line env = pure false)
  (hua : ∀ env, backTo ap2 (starEach [.Constant (.int 0) zk zp] env) = [(false, eval (.Constant (.int 0) zk zp) env)]) (hline : (ap.endLine == ap2.line) = true)
  (hret : Yk G k sc (.Return er rp') fr)
  (hord : YI G k sc (.Assign [.Name x xp] (.Call (.Name g gp) args [] cpos) pos :: .If test3 b3 [] p3 :: .If test4 [.If testg bg [] pg, .Assign [.Name y yp] ek kp, .Expr (.Call (.Attribute (.Subscript (.Name x xq) (.Constant (.int 1) ck cp) sp) "append" ap) [.Constant (.int 0) zk zp] [] ap2) ep, .Return er rp'] [] p4 :: rest) ord) :
  YI G k sc (.Assign [.Name x xp] (.Call (.Name g gp) args [] cpos) pos :: .If test3 b3 [] p3 :: .If test4 [.If testg bg [] pg, .Assign [.Name y yp] ek kp, .Expr (.Call (.Attribute (.Subscript (.Name x xq) (.Constant (.int 1) ck cp) sp) "append" ap) [.Constant (.int 0) zk zp] [] ap2) ep, .Return er rp'] [] p4 :: rest) (Vy i j F fa t3 t4 tg fk fr ord) := by
 intro cx ok fn ρ S s r Q E out
 unfold Vy at out
 by_cases hT : VI i j F fa t3 t4 tg fk fr ρ
 rotate_left
 ·rw [if_neg hT] at out; exact hord cx ok fn ρ S s r Q E out
 rw [if_pos hT] at out
 obtain ⟨bs, ds, w, ks, ρ₃, ρ₄, ρ₅, ρ₆, ρ₇, ⟨ha, hfa, hds, hbs⟩, ⟨hni, hF', hk0, hki, hkl⟩, e3, e4, eg, ek', er'⟩ := hT
 clear hord
 have cl : ∀ (l : Nat) (w : Str), (Qf sc)[l]? = some w → Xb w = false := fun l w hw => by
  have := List.all_eq_true.mp hcl w (List.mem_of_getElem? hw)
  simpa using this
 have hi := (List.getElem?_eq_some_iff.mp hx).1
 have hj := (List.getElem?_eq_some_iff.mp hy).1
 rw [execs_cons]
 refine wpAny_bind ?_
 rw [exec_Assign_Name _ _ _ _ _ (hswx cx.env ok.hsc)]
 refine wpAny_bind (wpAny_standAt (wpAny_bind ?_))
 show wpAny G.M cx.A (do callWith cpos (← eval (.Name g gp) cx.env) [] (backTo cpos (starEach args cx.env)) []) _ E s
 refine wpAny_bind (hn cx ok ρ S s r _ _ ?_)
 intro v h₁ t₁ S₁ r₁ j₁ x₁ v₁
 have hv : v = .ref a := by cases j₁; rfl
 subst hv
 refine Calls.callWith_function (o := fo) (fd := fd) (X5 hu ?_)
 refine hargs cpos cx ok ρ S₁ { s with heap := h₁, toks := t₁ } r₁ _ _ ?_
 rw [hfa]
 intro vs h₂ t₂ S₂ r₂ j₂ x₂ v₂
 refine ⟨⟨r₂.base _ _ hfo, hfd⟩, wpAny_call ?_⟩
 have rv := (j₂.rvs r₂ hbs hds).small hni
 refine hF cx.A cx.fs (fun b => S₂ b ∧ DA h₂ b) { s with heap := h₂, toks := t₂ } vs ds (ok.room.mono hk) ok.fr ok.hd (fun v q => let ⟨C, e⟩ := r₂.hok v q; ⟨C, e.free rfl⟩) r₂.ff r₂.base (fun b q => r₂.sdom b q.1) rv _ ?_
 rw [hF']
 intro v h₃ t₃ S₃ kp hB sub new sd ret
 replace ret : RV S₃ h₃ v (.tup [.str w, .list ks]) := ret
 obtain ⟨Sp, hCS, hSp, hback⟩ : ∃ Sp : Addr → Prop, (∀ b, S₂ b → Sp b) ∧ (∀ b, S₃ b → Sp b) ∧ (∀ b, Sp b → S₂ b ∨ S₃ b) := ⟨fun b => S₂ b ∨ S₃ b, fun _ => .inl, fun _ => .inr, fun _ q => q⟩
 have rt : RV Sp h₃ v (.tup [.str w, .list ks]) := ret.ext (Ext.grow hSp)
 obtain ⟨rp, xp⟩ := r₂.kpS kp hB (S' := Sp) hCS (fun b q => (hback b q).elim .inl fun q => (new b q).imp (·.1) id) (fun b q => (hback b q).elim (fun q => let ⟨o, e⟩ := r₂.sdom b q; kp.dom e) (sd b))
 have ret0 := ret
 cases ret0 with
 | tup et ct dt qt =>
 rename_i tA ot vt nt
 generalize hvt : vt.toList = vl at qt
 cases qt with
 | cons q0 qt =>
 cases qt with
 | cons q1 qt =>
 cases qt
 cases q1 with
 | list hsa ea ca da qa =>
 rename_i v0 aA oa va na
 have hna : h₂.get? aA = none := DG (S₂ := S₂) r₂.sdom kp new hsa ea da qa hk0 hki
 have lt : ∀ a, Value.ref tA = .ref a → ∃ o, h₃.get? a = some o := fun a e => by cases e; exact ⟨_, et⟩
 refine wpAny_bind (wpAny_standAt (wpAny_bind (Yn (s := { s with heap := h₃, toks := t₃ }) (ok.mono (Nat.zero_le _)) fn rp.pin hx hlx (.inl (cl i x hx)) (t := .sh (.glob (.ref tA))) (.glob _ lt) _ _ ?_)))
 intro _ h₄ t₄ S₄ r₄ _ x₄ _
 refine wpAny_pure ?_
 have hpl : ∀ h : Heap, (Wo cx sc h).length = (Qf sc).length := fun _ => VO
 have N₀ : NInv G cx sc ρ i x S₂ h₂ Sp h₃ tA h₄ := by
  refine ⟨r₄.nil x₄.sub, x₄.shrink fun _ z => z, (xp.shrink fun _ z => z).trans (x₄.shrink hCS), fun l y d hy hl => ?_, r₄.unpin hx (List.getElem?_set_self (by rw [hpl]; exact hi))⟩
  by_cases hli : l = i
  ·subst hli; exact (Bn hl).elim
  ·rw [List.getElem?_set_ne (Ne.symm hli)] at hl
   obtain ⟨v, hv, rv⟩ := r₂.held l y d hy hl
   exact ⟨v, r₄.unpin hy (by rw [List.getElem?_set_ne (Ne.symm hli)]; exact KI hy (cl l y hy) (hv.kp kp)), rv⟩
 rw [execs_cons]
 refine wpAny_bind ?_
 rw [exec_If]
 refine wpAny_bind (wpAny_standAt (wpAny_bind (ht3 cx ok _ Sp { s with heap := h₄, toks := t₄ } (N₀.read hCS ha hx rt) _ _ ?_)))
 rw [e3]
 intro b3' h₅ t₅ S₅ r₅ jb x₅ v₅
 subst jb
 have N₁ := N₀.step hCS r₅ x₅ (v₅ rfl)
 refine wpAny_execs_nil (env := cx.env) ?_
 rw [execs_cons]
 refine wpAny_bind ?_
 rw [exec_If]
 refine wpAny_bind (wpAny_standAt (wpAny_bind (ht4 cx ok _ Sp { s with heap := h₅, toks := t₅ } (N₁.read hCS ha hx rt) _ _ ?_)))
 rw [e4]
 intro b4' h₆ t₆ S₆ r₆ jb x₆ v₆
 subst jb
 have N₂ := N₁.step hCS r₆ x₆ (v₆ rfl)
 show wpAny G.M cx.A (execs _ cx.env) _ _ _
 rw [execs_cons]
 refine wpAny_bind ?_
 rw [exec_If]
 refine wpAny_bind (wpAny_standAt (wpAny_bind (htg cx ok _ Sp { s with heap := h₆, toks := t₆ } (N₂.read hCS ha hx rt) _ _ ?_)))
 rw [eg]
 intro bg' h₇ t₇ S₇ r₇ jb x₇ v₇
 subst jb
 have N₃ := N₂.step hCS r₇ x₇ (v₇ rfl)
 refine wpAny_execs_nil (env := cx.env) ?_
 rw [execs_cons]
 refine wpAny_bind ?_
 rw [exec_Assign_Name _ _ _ _ _ (hswy cx.env ok.hsc)]
 refine wpAny_bind (wpAny_standAt (wpAny_bind (hfk cx ok _ Sp { s with heap := h₇, toks := t₇ } (N₃.read hCS ha hx rt) _ _ ?_)))
 rw [ek']
 intro v' h₈ t₈ S₈ r₈ j₈ x₈ v₈
 have N₄ := N₃.step hCS r₈ x₈ (v₈ rfl)
 obtain ⟨aK, rfl, nsK, ⟨vK, nK, eK, qK⟩, hK0, nvK⟩ := id j₈
 obtain ⟨S₉, r₉, rv₉, x₉⟩ := r₈.drop j₈
 have hsK : S₉ aK := by cases rv₉; assumption
 refine wpAny_bind (wpAny_standAt (wpAny_bind (Yn (s := { s with heap := h₈, toks := t₈ }) (ok.mono (Nat.zero_le _)) fn r₉.pin hy hly (.inl (cl j y hy)) (t := .sh (.glob (.ref aK))) (.glob _ fun a e => by cases e; exact ⟨_, eK⟩) _ _ ?_)))
 intro _ h₁₀ t₁₀ S₁₀ r₁₀ _ x₁₀ _
 refine wpAny_pure ?_
 have s89 : ∀ b, Sp b → S₉ b := fun b q => x₉.sub b (x₈.sub b q)
 have xa : Ext Sp h₃ Sp h₁₀ := ((N₄.xp.trans (Ext.grow s89)).trans x₁₀).shrink fun _ z => z
 have xb : Ext S₂ h₂ S₂ h₁₀ := ((N₄.xc.trans (Ext.grow fun b q => s89 b (hCS b q))).trans x₁₀).shrink fun _ z => z
 have et' := xa.exact et (.inr (.inl ⟨ct, _, _, dt⟩)) (.seq dt)
 have ea' := xa.exact ea (.inl (hSp _ hsa)) (.seq da)
 have eK' := x₁₀.exact eK (.inl hsK) (.seq rfl)
 have vx' : Var cx.env h₁₀ x (.ref tA) := r₁₀.unpin hx (by rw [List.getElem?_set_ne (Ne.symm hij)]; exact KI hx (cl i x hx) N₄.vx)
 have vy' : Var cx.env h₁₀ y (.ref aK) := r₁₀.unpin hy (List.getElem?_set_self (by rw [hpl]; exact hj))
 have hd' : ∀ (l : Nat) (z : Str) (d : D), (Qf sc)[l]? = some z → l ≠ i → l ≠ j → ρ[l]? = some (some (.sh d)) → ∃ v, Var cx.env h₁₀ z v ∧ RV S₂ h₂ v d := fun l z d hz hli hlj hl => by
  obtain ⟨v, hv, rv⟩ := N₄.hd l z d hz (by rw [List.getElem?_set_ne (Ne.symm hli)]; exact hl)
  exact ⟨v, r₁₀.unpin hz (by rw [List.getElem?_set_ne (Ne.symm hlj)]; exact KI hz (cl l z hz) hv), rv⟩
 have ha10 : S₁₀ aA := x₁₀.sub _ (s89 _ (hSp _ hsa))
 have hne : aK ≠ aA := fun q => nsK (q ▸ x₈.sub _ (hSp _ hsa))
 have rs : Rel G cx sc ((Wo cx sc h₁₀).set i (some (.sh (.tup [.glob v0, .glob (.ref aA)])))) S₁₀ h₁₀ := by
  have rpin := r₁₀.pin
  refine r₁₀.remake (fun _ z => z) ?_ fun l z d hz hl => ?_
  ·refine Jn (List.all_eq_true.mpr fun u hu => ?_) _ _
   obtain ⟨m, hm⟩ := List.getElem?_of_mem hu
   cases u with
   | none => rfl
   | some u =>
    cases u with
    | sh d => rfl
    | ow b d =>
     exfalso
     unfold Wo at hm
     rw [List.getElem?_map] at hm
     obtain ⟨z, _, hz⟩ := Option.map_eq_some_iff.mp hm
     by_cases q : Xb z = false ∧ ∃ v, Var cx.env h₁₀ z v
     ·rw [dif_pos q] at hz; cases hz
     ·rw [dif_neg q] at hz; cases hz
  ·by_cases hli : l = i
   ·subst hli
    rw [hx] at hz; cases hz
    obtain rfl := T.sh.inj (OC hl)
    refine ⟨_, vx', .tup et' ct dt ?_⟩
    rw [hvt]
    refine .cons (.glob _ fun a e => ?_) (.cons (.glob _ fun a e => by cases e; exact ⟨_, ea'⟩) .nil)
    cases q0; cases e
   ·rw [List.getElem?_set_ne (Ne.symm hli)] at hl
    exact rpin.held l z d hz hl
 rw [execs_cons]
 refine wpAny_bind ?_
 refine wpAny_Expr_any ?_ (by unfold interactive; rw [ok.hsc, ok.hk]; rfl) (hswe cx.env)
 refine wpAny_Call_method rfl (by rw [hua]; rfl) hline PySem.F.plainAttrs_list PySem.F.slot_list_append PySem.F.type_list_append ?_
 refine hsub cx ok _ S₁₀ { s with heap := h₁₀, toks := t₁₀ } rs _ _ ?_
 rw [Fa hx]
 intro va' h₁₁ t₁₁ S₁₁ r₁₁ j₁₁ x₁₁ v₁₁
 obtain rfl := RV.glob_inv j₁₁
 have ea₂ := x₁₁.exact ea' (.inl ha10) (.seq da)
 refine ⟨⟨_, ea₂, ca.1⟩, fun b eb => by cases eb; exact ⟨_, ea₂, ca.2.1⟩, ?_⟩
 rw [hua]
 refine PySem.P.append_list ?_
 refine Qi (k := k) cx ok _ S₁₁ { s with heap := h₁₁, toks := t₁₁ } r₁₁ _ _ ?_
 intro vz h₁₂ t₁₂ S₁₂ r₁₂ j₁₂ x₁₂ v₁₂
 have ea₃ := x₁₂.exact ea₂ (.inl (x₁₁.sub _ ha10)) (.seq da)
 have hex : oa = { cls := .type "list", data := .seq va na } := by
  obtain ⟨c, d, dt', sl⟩ := oa
  obtain ⟨h1, h2, h3⟩ := ca
  simp only at h1 h2 h3 da
  subst h1; subst h2; subst h3; subst da; rfl
 have hsz : va.size = ks.length := by rw [← qa.length]; exact Array.length_toList.symm
 rw [hex] at ea₃
 refine ⟨va, na, by rw [hsz, sizeLine_eq]; omega, ea₃, ?_⟩
 obtain ⟨m', hm'⟩ := JH (fun xs => xs.push vz) ea₃
 have kb : KB [aA] h₁₂ (h₁₂.update aA (Obj.mapSeq fun xs => xs.push vz)) := KB.of_sameBut (Heap.SameBut.update ..) ⟨_, hm'⟩
 generalize h₁₂.update aA (Obj.mapSeq fun xs => xs.push vz) = h₁₃ at kb
 have new' : ∀ b ∈ [aA], cx.h₀.get? b = none ∧ G.B.get? b = none := fun b hb => by
  rw [List.mem_singleton.mp hb]
  refine ⟨r₂.keep.none hna, ?_⟩
  cases q : G.B.get? aA with
  | none => rfl
  | some o => have := r₂.base aA o q; rw [hna] at this; cases this
 obtain ⟨r₁₃, v₁₃⟩ := (r₁₂.nil (C := S₁₂) fun _ z => z).turnNil (ok.hd hq) new' (fun b hb => by rw [List.mem_singleton.mp hb]; exact ⟨_, ea₃, .seq rfl, fun v q => by cases q⟩) kb
 have s212 : ∀ b, S₉ b → S₁₂ b := fun b q => x₁₂.sub b (x₁₁.sub b (x₁₀.sub b q))
 have eK₃ : h₁₃.get? aK = some _ := kb.1 _ _ (fun hm => hne (List.mem_singleton.mp hm)) (x₁₂.exact (x₁₁.exact eK' (.inl (x₁₀.sub _ hsK)) (.seq rfl)) (.inl (x₁₁.sub _ (x₁₀.sub _ hsK))) (.seq rfl))
 have xd : Ext S₂ h₂ S₂ h₁₃ := (xb.trans ((x₁₁.trans x₁₂).shrink fun b q => x₁₀.sub b (s89 b (hCS b q)))).aside (fun b hb => by rw [List.mem_singleton.mp hb]; exact hna) kb
 have vv : Qv cx.env h₁₀ h₁₃ := ((v₁₁ rfl).trans (v₁₂ rfl)).trans v₁₃
 have rf : Rel G cx sc ((ρ.set i none).set j (some (.sh (.list ks)))) (fun b => S₂ b ∨ b = aK) h₁₃ := by
  refine r₁₃.remake (fun b q => s212 b (q.elim (fun q => s89 b (hCS b q)) fun q => q ▸ hsK)) ?_ fun l z d hz hl => ?_
  ·refine Jn (List.all_eq_true.mpr fun u hu => ?_) _ _
   rcases List.mem_or_eq_of_mem_set hu with q | rfl
   ·exact List.all_eq_true.mp ha u q
   ·rfl
  ·by_cases hlj : l = j
   ·subst hlj
    rw [hy] at hz; cases hz
    obtain rfl := T.sh.inj (OC hl)
    exact ⟨_, vv _ _ vy', .list (.inr rfl) eK₃ ⟨rfl, rfl, rfl⟩ rfl (qK.intsAny hki)⟩
   ·rw [List.getElem?_set_ne (Ne.symm hlj)] at hl
    by_cases hli : l = i
    ·subst hli; exact (Bn hl).elim
    ·rw [List.getElem?_set_ne (Ne.symm hli)] at hl
     obtain ⟨v, hv, rv⟩ := hd' l z d hz hli hlj hl
     exact ⟨v, vv _ _ hv, (rv.ext xd).ext (Ext.grow fun _ => .inl)⟩
 show wpAny G.M cx.A (execs [.Return er rp'] cx.env) _ _ _
 rw [execs_cons]
 refine wpAny_bind (hret cx ok fn _ _ { s with heap := h₁₃, toks := t₁₂ } rf _ _ ?_)
 rw [er']
 intro fl h₁₄ t₁₄ S₁₄ r₁₄ j₁₄ x₁₄ _
 have xe : Ext S s.heap S₁₄ h₁₄ := ((x₁.trans x₂).trans (xd.trans (Ext.grow fun _ => .inl))).trans x₁₄
 cases fl with
 | ret v => exact wpAny_pure (wpAny_pure (out (.ret v) h₁₄ t₁₄ S₁₄ (r₁₄.nil fun _ z => z) j₁₄ xe fun q => by cases q))
 | _ => exact j₁₄.elim
end
end Mine
end

section
set_option Elab.async false
set_option maxRecDepth 100000
namespace Mine
open PySem PyProof.Rows
section
variable {G : Gd} {k : Nat} {sc : Scope}
theorem Gm (gr : Gr G) {x y : Str} {p py tp zp pos1 ipos pos : Pos} {n : Nat} {e1 e2 test : Expr} {body : List Stmt} {f g : AEnv → Res T} {t : AEnv → Res Bool} (i j : Nat) (h1 : Sim G k sc e1 f) (h2 : Sim G k sc e2 g) (ht : YD G k sc test t) (hq : G.quiet = true := by rfl) (hcl : (Qf sc).all (fun x => !Xb x) = true := by kernel_rfl)
  (he : W.nsIn G.K mainGlobals ("zip" : Str) = some none := by kernel_rfl) (hgx : sc.names.lookup ("zip" : Str) = some .globalImplicit := by kernel_rfl) (hx : (Qf sc)[i]? = some x := by kernel_rfl) (hy : (Qf sc)[j]? = some y := by kernel_rfl) (hij : i ≠ j := by decide) (hl : ([x, y].all fun x => sc.names.lookup x == some .local || sc.names.lookup x == some .cell) = true := by kernel_rfl) (hu : [e1, e2].all QU = true := by kernel_rfl)
  (hs : ∀ env v, foldedSetIterable (.Call (.Name "zip" zp) [e1, e2] [] pos1) env v = pure v := by intro _ _; rfl) :
  Yk G k sc (.For (.Tuple [.Name x p, .Name y py] n tp) (.Call (.Name "zip" zp) [e1, e2] [] pos1) [.If test body [] ipos] [] pos) (Br i j f g t) := by
 have hl' : ∀ z ∈ [x, y], sc.names.lookup z = some .local ∨ sc.names.lookup z = some .cell := fun z hz => by simpa using List.all_eq_true.mp hl z hz
 exact DC hq hcl (gB gr (.type "zip") he (by kernel_rfl) (by kernel_rfl) rfl hgx (by kernel_rfl)) h1 h2 (List.all_eq_true.mp hu _ (.head _)) (List.all_eq_true.mp hu _ (.tail _ (.head _))) ht hx hy hij (hl' _ (.head _)) (hl' _ (.tail _ (.head _))) hs
theorem touch (gr : Gr G) {x y g : Str} {xp xq gp cpos pos p3 p4 pg yp kp sp ap ep ap2 rp : Pos} {F : List D → FOut} {args : List Expr} {fa : AEnv → Res (List Bv)} {k' ck zk : Nat} {cp zp : Pos} {test3 test4 testg ek : Expr} {b3 bg rest : List Stmt} {er : Option Expr} {t3 t4 tg : AEnv → Res Bool} {fk : AEnv → Res T} {fr ord : AEnv → Res Fl}
  (a : Addr) (i j : Nat) (hF : Zt G k' (.ref a) F) (hargs : YH G k sc args fa) (ht3 : YD G k sc test3 t3) (ht4 : YD G k sc test4 t4) (htg : YD G k sc testg tg) (hfk : Sim G k sc ek fk) (hret : Yk G k sc (.Return er rp) fr)
  (hord : YI G k sc (.Assign [.Name x xp] (.Call (.Name g gp) args [] cpos) pos :: .If test3 b3 [] p3 :: .If test4 [.If testg bg [] pg, .Assign [.Name y yp] ek kp, .Expr (.Call (.Attribute (.Subscript (.Name x xq) (.Constant (.int 1) ck cp) sp) "append" ap) [.Constant (.int 0) zk zp] [] ap2) ep, .Return er rp] [] p4 :: rest) ord)
  (hk : k' ≤ k := by decide) (hf : Uo G.K a = true := by kernel_rfl) (e : W.nsIn G.K mainGlobals g = some (some (.ref a)) := by kernel_rfl) (ho : (G.K.lookup a).isSome = true := by kernel_rfl) (hgx : sc.names.lookup g = some .globalImplicit := by kernel_rfl) (hdg : (g == ("__debug__" : Str)) = false := by kernel_rfl) (hu : args.all QU = true := by kernel_rfl)
  (hq : G.quiet = true := by rfl) (hcl : (Qf sc).all (fun x => !Xb x) = true := by kernel_rfl) (hx : (Qf sc)[i]? = some x := by kernel_rfl) (hy : (Qf sc)[j]? = some y := by kernel_rfl) (hij : i ≠ j := by decide) (hl : ([x, y].all fun x => sc.names.lookup x == some .local || sc.names.lookup x == some .cell) = true := by kernel_rfl)
  (hdx : (x == ("__debug__" : Str)) = false := by kernel_rfl) (hnx : (x == ("__classdict__" : Str)) = false := by kernel_rfl)
  (hswx : ∀ env : Env, swapsWith (.Call (.Name g gp) args [] cpos) (some (.Name x xp)) pos.line env = pure false := by intro _; rfl) (hswy : ∀ env : Env, swapsWith ek (some (.Name y yp)) kp.line env = pure false := by intro _; rfl)
  (hswe : ∀ env : Env, swapsWith (.Call (.Attribute (.Subscript (.Name x xq) (.Constant (.int 1) ck cp) sp) "append" ap) [.Constant (.int 0) zk zp] [] ap2) none ep.line env = pure false := by intro _; rfl)
  (hua : ∀ env, backTo ap2 (starEach [.Constant (.int 0) zk zp] env) = [(false, eval (.Constant (.int 0) zk zp) env)] := by intro _; rfl) (hline : (ap.endLine == ap2.line) = true := by rfl) :
  YI G k sc (.Assign [.Name x xp] (.Call (.Name g gp) args [] cpos) pos :: .If test3 b3 [] p3 :: .If test4 [.If testg bg [] pg, .Assign [.Name y yp] ek kp, .Expr (.Call (.Attribute (.Subscript (.Name x xq) (.Constant (.int 1) ck cp) sp) "append" ap) [.Constant (.int 0) zk zp] [] ap2) ep, .Return er rp] [] p4 :: rest) (Vy i j F fa t3 t4 tg fk fr ord) := by
 obtain ⟨fo, h1, h2⟩ := BK gr hf
 have hl' : ∀ z ∈ [x, y], sc.names.lookup z = some .local ∨ sc.names.lookup z = some .cell := fun z hz => by simpa using List.all_eq_true.mp hl z hz
 exact BL hq hcl (gF gr a e ho hgx hdg) h1 h2 hF hk hargs hu hx (hl' _ (.head _)) (fun env _ => hswx env) ht3 ht4 htg hfk hy hij (hl' _ (.tail _ (.head _))) (fun env _ => hswy env) (sub (O0 hx hdx hnx) (Qg.of Qi)) hswe hua hline hret hord
end
end Mine
end

section
set_option Elab.async false
set_option maxRecDepth 100000
namespace Mine
open PySem PySem.W PyProof.Rows
theorem UO {R : WRecords} : ∀ {xs : List WData}, WShape.hasItems R xs .int = true → ∃ ns : List Int, xs = ns.map .int
 | [], _ => ⟨[], rfl⟩
 | x :: xs, h => by
  rw [WShape.hasItems, Bool.and_eq_true_iff] at h
  obtain ⟨ns, rfl⟩ := UO h.2
  cases x with
  | int i => exact ⟨i :: ns, rfl⟩
  | _ => exact Bool.noConfusion (show false = true from h.1)
theorem Ey {l : OpenLaw} {args : List WData} {n : Nat} (hm : l.most = some n) (hb : l.bound = none) (h : l.row.toRowW.claim.pre args = true) : ∃ ns : List Int, args = [.list (ns.map .int)] ∧ ns.length ≤ n := by
 obtain ⟨h1, h2⟩ := pre_splitW h
 have e1 : l.row.toRowW.args = [.list .int] := rfl
 rw [e1] at h1
 obtain ⟨d, r, rfl, hd, hr⟩ := hasAllW_cons h1
 have hr0 : r = [] := by
  cases r with
  | nil => rfl
  | cons a b => exact Bool.noConfusion (show false = true from hr)
 subst hr0
 have hlist : ∃ xs, d = .list xs ∧ WShape.hasItems l.row.toRowW.records xs .int = true := by
  cases d with
  | list xs =>
   have h' : (WShape.hasItems l.row.toRowW.records xs .int || false) = true := hd
   rw [Bool.or_false] at h'
   exact ⟨xs, rfl, h'⟩
  | _ => exact Bool.noConfusion (show false = true from hd)
 obtain ⟨xs, rfl, hx⟩ := hlist
 obtain ⟨ns, rfl⟩ := UO hx
 refine ⟨ns, rfl, ?_⟩
 have e2 : l.row.toRowW.pre = .and (.not (.lt (.lit (.int n)) (.len (.arg 0)))) (.lit (.bool true)) := by
  show l.pre = _
  unfold OpenLaw.pre
  rw [hm, hb]
 rw [e2] at h2
 have h3 := (holds_andW h2).1
 by_cases hlt : (n : Int) < (ns.map WData.int).length
 ·exfalso
  have key : WTm.holds l.row.toRowW.records (.not (.lt (.lit (.int n)) (.len (.arg 0)))) { args := [.list (ns.map .int)] } = (match (some (WData.bool (!(decide ((n : Int) < (ns.map WData.int).length)))) : Option WData) with | some (.bool true) => true | _ => false) := rfl
  rw [decide_eq_true hlt] at key
  exact Bool.noConfusion (key.symm.trans h3)
 ·rw [List.length_map] at hlt; omega
theorem BT {R : WRecords} {cl : Str → Option Addr} {S : Addr → Prop} {h : Heap} {ns : List Int} : ∀ {vs : List Value} {as : List Addr}, ReadsAllW R cl h vs (ns.map .int) as → RVs S h vs (ns.map .int) ∧ as = [] := by
 induction ns with
 | nil => intro vs as r; cases r; exact ⟨.nil, rfl⟩
 | cons n ns ih =>
  intro vs as r
  cases r with
  | cons r1 r2 =>
   obtain ⟨q, rfl⟩ := ih r2
   cases r1
   exact ⟨.cons (.int _ _) q, rfl⟩
theorem E4 {l : OpenLaw} {w : World} {s₁ : Shared} {mg mb : Str → Option Value} {K : Frag} {a : Addr} {k : Nat} {F : List D → FOut} {args : List WData} {vals : List Value} {as : List Addr} {R : WRecords} {cl cl' : Str → Option Addr} {mean : ExcName → Option Value} (hF : Zt ⟨l.row.toRowW.prog, w, s₁.heap, mg, mb, K, true⟩ k (.ref a) F) (hk : k ≤ 500) (hg : s₁.gens = #[])
  {n : Nat} (hm : l.most = some n) (hb : l.bound = none) (hpre : l.row.toRowW.claim.pre args = true) (hrd : ReadsAllW R cl s₁.heap vals args as) (hwl : WellAll w.params s₁.heap vals args) (hlaw : ∀ ns : List Int, ns.length ≤ n → F [.list (ns.map .int)] = .ok (.sh (.bool true))) :
  wpAny (model l.row.toRowW.prog w) callerA (call (.ref a) vals) (fun v s' => GoodWG l.row.toRowW.claim cl' mean args s₁ (.ok (.ret v)) s') (fun e s' => GoodWG l.row.toRowW.claim cl' mean args s₁ (.error e) s') s₁ := by
 obtain ⟨ns, rfl, hn⟩ := Ey hm hb hpre
 cases hrd with
 | cons r1 r2 =>
  cases r2
  obtain ⟨b, vs, as', rfl, il, ri, _⟩ := readsW_list_inv r1
  obtain ⟨o, h1, h2, m, h3⟩ := il
  have hdn : o.dict = none ∧ o.slots = #[] := by
   cases hwl with
   | cons q _ => cases q with | list e _ => rw [h1] at e; cases e; exact ⟨rfl, rfl⟩
  obtain ⟨q, _⟩ := BT (S := fun x => x = b) ri
  refine wpAny_call ?_
  refine hF callerA [] (fun x => x = b) s₁ [.ref b] [.list (ns.map .int)] ?_ rfl (fun _ => rfl) (fun v e => by cases e) (fun env he => by cases he) (fun _ _ e => e) (fun x hx => ⟨o, by rw [hx]; exact h1⟩) (.cons (.list rfl h1 ⟨h2, hdn⟩ h3 q) .nil) _ ?_
  ·constructor
   ·show 1 + claimMargin + k ≤ 900
    have : claimMargin = 300 := rfl
    omega
   ·show 4 + 8 * k ≤ 9000
    omega
  ·rw [hlaw ns hn]
   intro v h' tk S' kp hB _ _ _ ret
   cases ret
   refine ⟨.inl ⟨.bool true, .bool true, [], rfl, fun _ => rfl, .bool true, ?_, fun _ => ⟨.nil, fun _ hx => by cases hx⟩⟩, .of_keep hB, rfl, ?_⟩
   ·show (WShape.has l.row.toRowW.records (.bool true) .bool && WTm.holds l.row.toRowW.records (.eq .res (.lit (.bool true))) { args := [.list (ns.map .int)], res := some (.bool true), after := [.list (ns.map .int)] }) = true
    have e1 : same (WData.bool true) (WData.bool true) = true := by first | rfl | exact same_self _ | decide | simp [same]
    have e2 : WTm.holds l.row.toRowW.records (.eq .res (.lit (.bool true))) { args := [.list (ns.map .int)], res := some (.bool true), after := [.list (ns.map .int)] } = (match (some (WData.bool (same (WData.bool true) (WData.bool true))) : Option WData) with | some (.bool true) => true | _ => false) := rfl
    rw [e1] at e2
    rw [e2]; rfl
   ·show AllBare s₁.gens
    rw [hg]
    exact .of_eq rfl
end Mine
end

section
set_option Elab.async false
set_option maxRecDepth 100000
namespace Mine
open PySem
theorem BZ {b : D → AEnv → Option AEnv} {t : AEnv → Res Bool} {f : AEnv → Res T} {ρ₀ : AEnv} {q : D → Bool} {g : D → D} : ∀ (ds acc : List D), (∀ d ∈ ds, ∃ ρ₁ ρ₂, b d ρ₀ = some ρ₁ ∧ t ρ₁ = .ok (q d) ρ₂ ∧ (q d = true → ∃ v ρ₃, f ρ₂ = .ok v ρ₃ ∧ v.val = g d)) → acc.length + ds.length ≤ 1000000 → Yr b t f ρ₀ ds acc = some (acc ++ (ds.filter q).map g) := by
 intro ds
 induction ds with
 | nil => intro acc _ _; exact congrArg some (List.append_nil acc).symm
 | cons d ds ih =>
  intro acc h hl
  obtain ⟨ρ₁, ρ₂, h1, h2, h3⟩ := h d (.head _)
  rw [List.length_cons] at hl
  have ih := fun acc' => ih acc' fun e he => h e (.tail _ he)
  conv => lhs; whnf
  rw [h1]
  conv => lhs; whnf
  rw [h2]
  cases hq : q d with
  | false =>
   rw [List.filter_cons_of_neg (by rw [hq]; decide)]
   exact ih acc (by omega)
  | true =>
   obtain ⟨v, ρ₃, h4, h5⟩ := h3 hq
   rw [List.filter_cons_of_pos hq, List.map_cons, ← h5]
   conv => lhs; whnf
   rw [h4]
   refine (if_pos (by omega)).trans ((ih _ (by rw [List.length_append]; exact Nat.le_trans (Nat.le_of_eq (Nat.add_assoc _ 1 _)) (by rw [Nat.add_comm 1]; exact hl))).trans ?_)
   rw [List.append_assoc]; rfl
theorem Uv {b : D → AEnv → Option AEnv} {f : AEnv → Res T} {ρ₀ : AEnv} {g : D → D} (ds : List D) (h : ∀ d ∈ ds, ∃ ρ₁ v ρ₃, b d ρ₀ = some ρ₁ ∧ f ρ₁ = .ok v ρ₃ ∧ v.val = g d) (hl : ds.length ≤ 1000000) : Yr b K6 f ρ₀ ds [] = some (ds.map g) := by
 have := BZ (b := b) (t := K6) (f := f) (ρ₀ := ρ₀) (q := fun _ => true) (g := g) ds [] (fun d hd => by
  obtain ⟨ρ₁, v, ρ₃, h1, h2, h3⟩ := h d hd
  exact ⟨ρ₁, ρ₁, h1, rfl, fun _ => ⟨v, ρ₃, h2, h3⟩⟩) (by simpa using hl)
 rw [this, List.nil_append, List.filter_eq_self.mpr fun _ _ => rfl]
noncomputable def iL (ns : List Int) : List D := ns.map .int
noncomputable def nL (ns : List Nat) : List D := ns.map fun (n : Nat) => D.int n
noncomputable def isW : D → Bool
 | .int _ => true
 | _ => false
noncomputable def E8 : D → Bool
 | .range .. => false
 | .exc _ => false
 | .glob _ => false
 | .dict .. => false
 | .obj .. => false
 | _ => true
theorem C4 (ns : List Int) : JE (iL ns) = some ns := by
 induction ns with
 | nil => rfl
 | cons n ns ih => exact congrArg (Option.map (n :: ·)) ih
theorem By (bs : List Bool) : UB (bs.map .bool) = some bs := by
 induction bs with
 | nil => rfl
 | cons b bs ih => exact congrArg (Option.map (b :: ·)) ih
theorem JN {d : D} {ds : List D} {p : PyData} {ps : List PyData} (h1 : Wx d = some p) (h2 : Yv ds = some ps) : Yv (d :: ds) = some (p :: ps) := by
 conv => lhs; whnf
 rw [h1, h2]
theorem Un (ns : List Int) : Yv (iL ns) = some (ns.map .int) := by
 induction ns with
 | nil => rfl
 | cons n ns ih => exact JN rfl ih
theorem CX {ds : List D} {ps : List PyData} (h : Yv ds = some ps) : Wx (.tup ds) = some (.tuple ps) := congrArg (Option.map PyData.tuple) h
theorem B2 {ds : List D} {ps : List PyData} (h : Yv ds = some ps) : Wx (.list ds) = some (.list ps) := congrArg (Option.map PyData.list) h
theorem Ug (a : List Int) : ∀ b : List Int, PyData.eqvAll (a.map .int) (b.map .int) = decide (a = b) := by
 induction a with
 | nil =>
  intro b
  cases b with
  | nil => rfl
  | cons y b => rfl
 | cons x a ih =>
  intro b
  cases b with
  | nil => rfl
  | cons y b =>
   show ((x == y) && PyData.eqvAll (a.map .int) (b.map .int)) = _
   rw [ih]
   by_cases h : x = y
   ·subst h
    by_cases h2 : a = b
    ·subst h2; rw [decide_eq_true rfl, decide_eq_true rfl, Bool.and_true]; exact beq_self_eq_true x
    ·rw [decide_eq_false h2, decide_eq_false (fun q => h2 (List.cons.inj q).2), Bool.and_false]
   ·rw [decide_eq_false (fun q => h (List.cons.inj q).1), beq_eq_false_iff_ne.mpr h, Bool.false_and]
theorem J2 (a : List Int) : PyData.canLayAll0 (a.map .int) = true := by
 induction a with
 | nil => rfl
 | cons x a ih => exact ih
theorem Wb (a : List Int) : PyData.depthAll (a.map .int) ≤ 1 := by
 induction a with
 | nil => exact Nat.zero_le _
 | cons x a ih => exact Nat.max_le.mpr ⟨Nat.zero_le _, ih⟩
theorem Kd (a : List Int) : SeqAt.shaped (.list (a.map .int)) = true :=
 Bool.and_eq_true_iff.mpr ⟨J2 a, decide_eq_true (Nat.le_trans (Nat.add_le_add_right (Wb a) 1) (by decide))⟩
theorem KY (a : List Int) : SeqAt.shaped (.tuple (a.map .int)) = true :=
 Bool.and_eq_true_iff.mpr ⟨J2 a, decide_eq_true (Nat.le_trans (Nat.add_le_add_right (Wb a) 1) (by decide))⟩
noncomputable def eqB (a b : List Int) : Bool := decide (a = b)
theorem OG {a b : List Int} : eqB a b = true ↔ a = b := decide_eq_true_iff
noncomputable def eqZ (a b : Int) : Bool := decide (a = b)
theorem Uf {a b : Int} : eqZ a b = true ↔ a = b := decide_eq_true_iff
theorem O8 {a b : Int} : eqZ a b = false ↔ a ≠ b := decide_eq_false_iff_not
theorem Ua {x y : D} {p q : PyData} {b : Bool} (h1 : Wx x = some p) (h2 : Wx y = some q) (h3 : SeqAt.shaped p = true) (h4 : SeqAt.shaped q = true) (h5 : PyData.eqv p q = b) : eqD x y = some b := by
 conv => lhs; whnf
 rw [h1, h2]
 conv => lhs; whnf
 rw [h3, h4, ← h5]; rfl
theorem WS {x y : D} {b : Bool} (h : eqD x y = some b) : eqI x y = some (.sh (.bool b)) := congrArg (Option.map fun b => T.sh (.bool b)) h
theorem WH {x y : D} {b : Bool} (h : eqD x y = some b) : neI x y = some (.sh (.bool !b)) := congrArg (Option.map fun b => T.sh (.bool !b)) h
theorem Do (a b : List Int) : eqD (.list (iL a)) (.list (iL b)) = some (eqB a b) := Ua (B2 (Un a)) (B2 (Un b)) (Kd a) (Kd b) (Ug a b)
theorem BI (a b : List Int) : eqD (.tup (iL a)) (.tup (iL b)) = some (eqB a b) := Ua (CX (Un a)) (CX (Un b)) (KY a) (KY b) (Ug a b)
theorem BN (a b : List Int) : eqI (.list (iL a)) (.list (iL b)) = some (.sh (.bool (eqB a b))) := WS (Do a b)
theorem CW (a b : List Int) : eqI (.tup (iL a)) (.tup (iL b)) = some (.sh (.bool (eqB a b))) := WS (BI a b)
theorem E2 (a b : List Int) : neI (.tup (iL a)) (.tup (iL b)) = some (.sh (.bool !(eqB a b))) := WH (BI a b)
theorem EW (a b : Int) : (a == b) = eqZ a b := by
 by_cases h : a = b
 ·rw [Uf.mpr h]; exact beq_iff_eq.mpr h
 ·rw [O8.mpr h]; exact beq_eq_false_iff_ne.mpr h
theorem Kw (a b : Int) : eqD (.int a) (.int b) = some (eqZ a b) := Ua rfl rfl rfl rfl (EW a b)
theorem CD (a b : Int) : eqI (.int a) (.int b) = some (.sh (.bool (eqZ a b))) := WS (Kw a b)
noncomputable def rng (n : Nat) : List Int := (List.range n).map fun (i : Nat) => (i : Int)
theorem JG (n : Nat) : (rng n).length = n := by simp [rng]
theorem Wf (n : Nat) : Ju 0 n 1 = iL (rng n) := by
 unfold Ju U1 iL rng
 rw [rangeSize_one]
 have : (if (0 : Int) < n then (n : Int) - 0 else 0).toNat = n := by split <;> omega
 rw [this]
 simp
theorem JK (n : Nat) (h : n ≤ 1000000) : X9 0 n 1 = true := by
 unfold X9
 rw [small_one (by omega) (by omega) (by omega) (by omega), rangeSize_one]
 simp only [Bool.true_and, Bool.and_eq_true, decide_eq_true_eq]
 constructor <;> split <;> omega
theorem Ck (ns : List Int) : (Ul ns).Perm ns := List.mergeSort_perm ns _
theorem Cn (n : Nat) : (rng n).Pairwise (· ≤ ·) := by
 unfold rng
 rw [List.pairwise_map]
 exact (List.pairwise_lt_range (n := n)).imp fun h => by omega
theorem Dl {ns : List Int} {n : Nat} : Ul ns = rng n ↔ ns.Perm (rng n) := by
 constructor
 ·intro h; rw [← h]; exact (Ck ns).symm
 ·intro h; exact (J3 h.symm (Cn n)).symm
section
variable {f g : AEnv → Res Fl} {t : AEnv → Res Bool} {e : AEnv → Res T} {ρ ρ₁ : AEnv} {v : T} {C : PySem.Addr} {i : Nat}
theorem E9 (h : f ρ = .ok .next ρ₁) : Qn f g ρ = g ρ₁ := by unfold Qn; rw [h]; rfl
theorem FU (h : e ρ = .ok v ρ₁) : Qw i e ρ = .ok .next (ρ₁.set i (some v)) := by unfold Qw; rw [h]; rfl
end
end Mine
end

section
set_option Elab.async false
set_option maxRecDepth 100000
set_option linter.unusedSimpArgs false
namespace Mine
open PySem
set_option autoImplicit true
set_option relaxedAutoImplicit true
noncomputable def F3 (r : Res T) : Res Bv := Qc (fun _ => r) []
theorem ValK.ok (h : T.val t = d) : F3 (.ok t ρ) = .ok (.val d) ρ := by subst h; rfl
noncomputable def F7 (F : D → Option T) (r : Res Bv) : Res T := U9 F (fun _ => r) []
theorem Op1K.ok (h : Bv.get ρ a = some x) (h2 : F x = some t) : F7 F (.ok a ρ) = .ok t ρ := by conv => lhs; whnf; rw [h]; whnf; rw [h2]
noncomputable def Ge (F : D → D → Option T) (a : Bv) (r : Res Bv) : Res T := Qp F (fun ρ => .ok a ρ) (fun _ => r) []
theorem Op2L.ok (h : Bv.get ρ a = some x) (h2 : Bv.get ρ b = some y) (h3 : F x y = some t) : Ge F a (.ok b ρ) = .ok t ρ := by conv => lhs; whnf; rw [h, h2]; whnf; rw [h3]
noncomputable def F5 (F : D → D → Option T) (g : AEnv → Res Bv) (r : Res Bv) : Res T := Qp F (fun _ => r) g []
theorem Op2K.ok (h : g ρ = r) (h2 : Ge F a r = rT) : F5 F g (.ok a ρ) = rT := by subst h; exact h2
noncomputable def F6 (F : List D → Option T) (r : Res (List Bv)) : Res T := QQ F (fun _ => r) []
theorem OpNK.ok (h : XM ρ bs = some ds) (h2 : F ds = some t) : F6 F (.ok bs ρ) = .ok t ρ := by conv => lhs; whnf; rw [h]; whnf; rw [h2]
noncomputable def Fg (F : List D → FOut) (r : Res (List Bv)) : Res T := QF F (fun _ => r) []
theorem CallK.ok {o : FOut} (h : XM ρ bs = some ds) (h2 : F ds = o) (h3 : ZS bs ρ o = rT) : Fg F (.ok bs ρ) = rT := by
 subst h2; subst h3; conv => lhs; whnf; rw [h]
noncomputable def DY (b : Bv) (r : Res (List Bv)) : Res (List Bv) := Qa (fun ρ => .ok b ρ) (fun _ => r) []
theorem ConsBL.ok : DY b (.ok bs ρ) = .ok (b :: bs) ρ := rfl
noncomputable def D6 (g : AEnv → Res (List Bv)) (r : Res Bv) : Res (List Bv) := Qa (fun _ => r) g []
theorem ConsBK.ok (h : g ρ = rL) (h2 : DY b rL = rL') : D6 g (.ok b ρ) = rL' := by subst h; exact h2
noncomputable def Fp (d : D) (r : Res (List D)) : Res (List D) := QI (fun ρ => .ok (.sh d) ρ) (fun _ => r) []
theorem ConsL.ok : Fp d (.ok ds ρ) = .ok (d :: ds) ρ := rfl
noncomputable def Fo (g : AEnv → Res (List D)) (r : Res T) : Res (List D) := QI (fun _ => r) g []
theorem ConsK.ok (h : T.val t = d) (h1 : g ρ = rD) (h2 : Fp d rD = rD') : Fo g (.ok t ρ) = rD' := by subst h; subst h1; exact h2
noncomputable def FY (r : Res (List D)) : Res T := UM (fun _ => r) []
theorem TupK.ok (h : List.length ds ≤ 1000000) : FY (.ok ds ρ) = .ok (.sh (.tup ds)) ρ := if_pos h
noncomputable def FO (r : Res (List D)) : Res T := YB (fun _ => r) []
theorem LstK.ok (h : List.length ds ≤ 1000000) : FO (.ok ds ρ) = .ok (.ow true (.list ds)) ρ := if_pos h
noncomputable def DT (r : Res Bv) : Res Bool := Xi (fun _ => r) []
theorem TruthK.ok (h : Bv.get ρ a = some (.bool c)) : DT (.ok a ρ) = .ok c ρ := by
 conv => lhs; whnf; rw [h]
 rfl
noncomputable def FN (r : Res Bool) : Res Bool := Zj (fun _ => r) []
theorem NotK.t : FN (.ok true ρ) = .ok false ρ := rfl
noncomputable def orK (g : AEnv → Res Bool) (r : Res Bool) : Res Bool := eOr (fun _ => r) g []
theorem OrK.f (h : g ρ = rB) : orK g (.ok false ρ) = rB := h
noncomputable def Ch (F : D → D → Option T) (a : Bv) (r : Res Bv) : Res Bool := Xj F (fun ρ => .ok a ρ) (fun _ => r) []
theorem Test2L.ok (h : Bv.get ρ a = some x) (h2 : Bv.get ρ b = some y) (h3 : F x y = some (.sh (.bool c))) : Ch F a (.ok b ρ) = .ok c ρ := by conv => lhs; whnf; rw [h, h2]; whnf; rw [h3]
noncomputable def DR (F : D → D → Option T) (g : AEnv → Res Bv) (r : Res Bv) : Res Bool := Xj F (fun _ => r) g []
theorem Test2K.ok (h : g ρ = r) (h2 : Ch F a r = rB) : DR F g (.ok a ρ) = rB := by subst h; exact h2
noncomputable def BU (F' : D → D → Option T) (b : Bv) (r : Res Bv) : Res Bool := Ch F' b r
theorem ChainN.ok (h : Bv.get ρ b = some y) (h2 : Bv.get ρ a = some z) (h3 : F' y z = some (.sh (.bool c))) : BU F' b (.ok a ρ) = .ok c ρ := Test2L.ok h h2 h3
noncomputable def Ev (F' : D → D → Option T) (h : AEnv → Res Bv) (b : Bv) (ρ : AEnv) (c : Bool) : Res Bool := cond c (BU F' b (h ρ)) (.ok false ρ)
theorem ChainM.t (h1 : h ρ = r) (h2 : BU F' b r = rB) : Ev F' h b ρ true = rB := by subst h1; exact h2
noncomputable def EB (F F' : D → D → Option T) (h : AEnv → Res Bv) (a : Bv) (r : Res Bv) : Res Bool := ZU F F' (fun ρ => .ok a ρ) (fun _ => r) h []
theorem ChainL.ok (h1 : Bv.get ρ a = some x) (h2 : Bv.get ρ b = some y) (h3 : F x y = some (.sh (.bool c))) (h4 : Ev F' h b ρ c = rB) : EB F F' h a (.ok b ρ) = rB := by
 subst h4
 conv => lhs; whnf; rw [h1, h2]; whnf; rw [h3]
 cases c <;> rfl
noncomputable def D2 (F F' : D → D → Option T) (g h : AEnv → Res Bv) (r : Res Bv) : Res Bool := ZU F F' (fun _ => r) g h []
theorem ChainK.ok (h1 : g ρ = r) (h2 : EB F F' h a r = rB) : D2 F F' g h (.ok a ρ) = rB := by subst h1; exact h2
noncomputable def boL (g : AEnv → Res T) (ρ : AEnv) (op : BoolOp) (c : Bool) : Res T := eBo op (fun _ => .ok (.val (.bool c)) ρ) g []
theorem BoL.andT (h : g ρ = rT) : boL g ρ .And true = rT := h
noncomputable def boK (op : BoolOp) (g : AEnv → Res T) (r : Res Bv) : Res T := eBo op (fun _ => r) g []
theorem BoK.ok (h : Bv.get ρ a = some (.bool c)) (h2 : boL g ρ op c = rT) : boK op g (.ok a ρ) = rT := by
 subst h2; conv => lhs; whnf; rw [h]
 rfl
noncomputable def DP (r : Res T) : Res (List D) := Zh (fun _ => r) []
theorem ItemsK.ok (h : T.val t = d) (h2 : Zr d = some ds) : DP (.ok t ρ) = .ok ds ρ := by subst h; conv => lhs; whnf; rw [h2]
noncomputable def Fj (r : Res T) : Res (List D) := Vi (fun _ => r) []
theorem EnumK.list (h : T.val t = .list ds) : Fj (.ok t ρ) = .ok (JO ds) ρ := by conv => lhs; whnf; rw [h]
noncomputable def Fy (g : AEnv → Res Fl) (r : Res Fl) : Res Fl := Qn (fun _ => r) g []
theorem SeqK.next (h : g ρ = s) : Fy g (.ok .next ρ) = s := h
theorem SeqK.ret : Fy g (.ok (.ret t) ρ) = .ok (.ret t) ρ := rfl
noncomputable def ifK (f g : AEnv → Res Fl) (r : Res Bool) : Res Fl := sIf (fun _ => r) f g []
theorem IfK.t (h : p ρ = s) : ifK p q (.ok true ρ) = s := h
theorem IfK.f (h : q ρ = s) : ifK p q (.ok false ρ) = s := h
noncomputable def FZ (r : Res T) : Res Fl := XZ (fun _ => r) []
theorem RetK.ok : FZ (.ok t ρ) = .ok (.ret t) ρ := rfl
noncomputable def Fh (r : Res Bv) : Res Fl := ZN (fun _ => r) []
theorem ExprK.ok : Fh (.ok a ρ) = .ok .next ρ := rfl
noncomputable def FQ (i : Nat) (r : Res T) : Res Fl := Qw i (fun _ => r) []
theorem AsgK.ok (h : List.set ρ i (some t) = ρ') : FQ i (.ok t ρ) = .ok .next ρ' := by subst h; rfl
noncomputable def Gf (b : D → AEnv → Option AEnv) (body : AEnv → Res Fl) (r : Res (List D)) : Res Fl := UX (fun _ => r) b body []
theorem ForK.ok (h : ZH b body ds ρ = s) : Gf b body (.ok ds ρ) = s := h
noncomputable def Fx (b : D → AEnv → Option AEnv) (body : AEnv → Res Fl) (ds : List D) (r : Res Fl) : Res Fl := r.bind fun fl ρ₂ => match fl with
 | .next => ZH b body ds ρ₂
 | .cont => ZH b body ds ρ₂
 | .brk => .ok .next ρ₂
 | .ret t => .ok (.ret t) ρ₂
theorem ForL.next (h : ZH b body ds ρ = s) : Fx b body ds (.ok .next ρ) = s := h
theorem ForL.ret : Fx b body ds (.ok (.ret t) ρ) = .ok (.ret t) ρ := rfl
section
variable {ρ ρ₁ ρ₂ ρ₃ ρ' : AEnv} {d x y : D} {m : Bool} {i n : Nat} {t t' : T} {b : Bv} {bs : List Bv} {ds ds' : List D} {u : Option T} {l l' : AEnv}
theorem Xa : (T.sh d).val = d := rfl
theorem Zi : (T.ow m d).val = d := rfl
theorem FR : (T.sh d).weak = .sh d := rfl
theorem XA : List.set (u :: l) 0 v = v :: l := rfl
theorem XB (h : List.set l n v = l') : List.set (u :: l) (n + 1) v = u :: l' := by rw [List.set_cons_succ, h]
theorem QJ : (u :: l)[0]? = some u := rfl
theorem QR {v : Option (Option T)} (h : l[n]? = v) : (u :: l)[n + 1]? = v := h
theorem QS : Bv.get ρ (.val d) = some d := rfl
theorem QM : (T.sh d).get = some d := rfl
theorem Yb : (T.ow m (.list ds)).get = some (.list ds) := rfl
theorem QL (h : ρ[i]? = some (some t)) (h2 : t.get = some d) : Bv.get ρ (.var i) = some d := by
 conv => lhs; whnf; rw [h]
 exact h2
theorem QD : XM ρ [] = some [] := rfl
theorem Qt (h : b.get ρ = some d) (h2 : XM ρ bs = some ds) : XM ρ (b :: bs) = some (d :: ds) := by conv => lhs; whnf; rw [h, h2]
theorem WI : JF ρ [] = some [] := rfl
theorem Ut {r : List (Option Nat)} (h : JF ρ r = some l) : JF ρ (none :: r) = some (none :: l) := congrArg (Option.map (none :: ·)) h
theorem C2 {r : List (Option Nat)} (h : ρ[i]? = some (some t)) (h2 : t.weak = t') (h3 : JF ρ r = some l) : JF ρ (some i :: r) = some (some t' :: l) := by subst h2; conv => lhs; whnf; rw [h]; whnf; rw [h3]
theorem Jj (h : ρ[i]? = some (some (.ow true (.list ds)))) (hl : ds.length ≤ 1000000) : Z2 ρ i = some ds := by
 conv => lhs; whnf; rw [h]
 exact if_pos hl
theorem Q9 (h : bs.all (ZQ ρ) = true) : ZS bs ρ (.ok t) = .ok t ρ := if_pos h
theorem CE (h : bs.all (ZQ ρ) = false) (h2 : t.val = d) (h3 : Qk d = true) : ZS bs ρ (.ok t) = .ok (.sh d) ρ := by subst h2; exact (if_neg (by rw [h]; decide)).trans (if_pos h3)
end
section
variable {ρ ρ₁ ρ₂ ρ₃ ρ' : AEnv} {d x y z : D} {i : Nat} {t : T} {a b : Bv} {bs : List Bv} {ds ds' : List D} {C : Addr} {c : Bool}
variable {f g h : AEnv → Res Bv} {fT gT : AEnv → Res T} {fa : AEnv → Res (List Bv)} {fd : AEnv → Res (List D)} {tb tc : AEnv → Res Bool} {r : Res Bv} {rT : Res T} {rB rB' : Res Bool} {rL rL' : Res (List Bv)} {rD rD' : Res (List D)}
theorem Qo : Qd d ρ = .ok (.sh d) ρ := rfl
theorem QK (h : ρ[i]? = some (some t)) : eOp i ρ = .ok (.var i) ρ := by conv => lhs; whnf; rw [h]
theorem QP (h : ρ[i]? = some (some (.sh d))) : XJ i ρ = .ok (.sh d) ρ := by conv => lhs; whnf; rw [h]
theorem U8 (h : ρ[i]? = some (some (.ow true (.list ds)))) (h2 : List.set ρ i (some (.sh (.list ds))) = ρ') : XJ i ρ = .ok (.sh (.list ds)) ρ' := by subst h2; conv => lhs; whnf; rw [h]
theorem QA (h1 : fT ρ = rT) (h2 : F3 rT = r) : Qc fT ρ = r := by subst h1; exact h2
theorem WT {F : D → Option T} (h1 : f ρ = r) (h2 : F7 F r = rT) : U9 F f ρ = rT := by subst h1; exact h2
theorem QG {F : D → D → Option T} (h1 : f ρ = r) (h2 : F5 F g r = rT) : Qp F f g ρ = rT := by subst h1; exact h2
theorem Q4 {F : List D → Option T} (h1 : fa ρ = rL) (h2 : F6 F rL = rT) : QQ F fa ρ = rT := by subst h1; exact h2
theorem QC {F : List D → FOut} (h1 : fa ρ = rL) (h2 : Fg F rL = rT) : QF F fa ρ = rT := by subst h1; exact h2
theorem Qs : Qj ρ = .ok [] ρ := rfl
theorem Qm (h1 : f ρ = r) (h2 : D6 fa r = rL) : Qa f fa ρ = rL := by subst h1; exact h2
theorem Xg : Zp ρ = .ok [] ρ := rfl
theorem QW (h1 : fT ρ = rT) (h2 : Fo fd rT = rD) : QI fT fd ρ = rD := by subst h1; exact h2
theorem XF (h1 : fd ρ = rD) (h2 : FY rD = rT) : UM fd ρ = rT := by subst h1; exact h2
theorem Xy (h1 : fd ρ = rD) (h2 : FO rD = rT) : YB fd ρ = rT := by subst h1; exact h2
theorem Q1 (h1 : f ρ = r) (h2 : DT r = rB) : Xi f ρ = rB := by subst h1; exact h2
theorem Xz (h1 : tb ρ = rB) (h2 : FN rB = rB') : Zj tb ρ = rB' := by subst h1; exact h2
theorem Q5 : X7 ρ = .ok false ρ := rfl
theorem Zb (h1 : tb ρ = rB) (h2 : orK tc rB = rB') : eOr tb tc ρ = rB' := by subst h1; exact h2
theorem QE {F : D → D → Option T} (h1 : f ρ = r) (h2 : DR F g r = rB) : Xj F f g ρ = rB := by subst h1; exact h2
theorem ZK {F F' : D → D → Option T} (h1 : f ρ = r) (h2 : D2 F F' g h r = rB) : ZU F F' f g h ρ = rB := by subst h1; exact h2
theorem CK {op : BoolOp} (h1 : f ρ = r) (h2 : boK op gT r = rT) : eBo op f gT ρ = rT := by subst h1; exact h2
theorem Uy : YA ρ = .ok none ρ := rfl
theorem KA {j : Int} (h1 : f ρ = .ok a ρ₁) (h2 : a.get ρ₁ = some (.int j)) : UR f ρ = .ok (some j) ρ₁ := by conv => lhs; whnf; rw [h1]; whnf; rw [h2]
theorem Ws {p q : AEnv → Res (Option Int)} {lo hi : Option Int} (h1 : f ρ = .ok a ρ₁) (h2 : p ρ₁ = .ok lo ρ₂) (h3 : q ρ₂ = .ok hi ρ₃) (h4 : a.get ρ₃ = some x) (h5 : U0 x lo hi = some t) : Jc f p q ρ = .ok t ρ₃ := by conv => lhs; whnf; rw [h1]; whnf; rw [h2]; whnf; rw [h3]; whnf; rw [h4]; whnf; rw [h5]
theorem Xh (h1 : fT ρ = rT) (h2 : DP rT = rD) : Zh fT ρ = rD := by subst h1; exact h2
theorem CJ (h1 : fT ρ = rT) (h2 : Fj rT = rD) : Vi fT ρ = rD := by subst h1; exact h2
theorem Jl {cap : List (Option Nat)} {bd : D → AEnv → Option AEnv} {l ρ₀ : AEnv} {out : List D} (h1 : JF ρ cap = some l) (h2 : fd ρ = .ok ds ρ₁) (h3 : JF ρ₁ cap = some ρ₀) (h4 : Yr bd tb fT ρ₀ ds [] = some out) : Ja cap fd bd tb fT ρ = .ok (.ow true (.list out)) ρ₁ := by conv => lhs; whnf; rw [h1]; whnf; rw [h2]; whnf; rw [h3]; whnf; rw [h4]
theorem Zz (h1 : Z2 ρ i = some ds) (h2 : fT ρ = .ok t ρ₁) (h3 : Z2 ρ₁ i = some ds') (h4 : t.val = d) (h5 : List.set ρ₁ i (some (.ow true (.list (ds' ++ [d])))) = ρ') : ZT i fT ρ = .ok (.sh .none) ρ' := by subst h4; subst h5; conv => lhs; whnf; rw [h1]; whnf; rw [h2]; whnf; rw [h3]
variable {sf sg : AEnv → Res Fl} {s s' : Res Fl} {fl : Fl}
theorem Qx : QB ρ = .ok .next ρ := rfl
theorem Ux (h : ρ[i]? = some (some (.sh d))) : Ym i ρ = .ok (.ret (.sh d)) ρ := by conv => lhs; whnf; rw [h]
theorem Vb (h : ρ[i]? = some (some (.ow true (.list ds)))) : Ym i ρ = .ok (.ret (.ow true (.list ds))) ρ := by conv => lhs; whnf; rw [h]
theorem Qz (h1 : sf ρ = s) (h2 : Fy sg s = s') : Qn sf sg ρ = s' := by subst h1; exact h2
theorem Xe (h1 : tb ρ = rB) (h2 : ifK sf sg rB = s) : sIf tb sf sg ρ = s := by subst h1; exact h2
theorem QX (h1 : fT ρ = rT) (h2 : FZ rT = s) : XZ fT ρ = s := by subst h1; exact h2
theorem XU (h1 : f ρ = r) (h2 : Fh r = s) : ZN f ρ = s := by subst h1; exact h2
theorem Q0 (h1 : fT ρ = rT) (h2 : FQ i rT = s) : Qw i fT ρ = s := by subst h1; exact h2
theorem Zl {b : D → AEnv → Option AEnv} (h1 : fd ρ = rD) (h2 : Gf b sf rD = s) : UX fd b sf ρ = s := by subst h1; exact h2
theorem B8 {j : Int} (h1 : fT ρ = .ok t ρ₁) (h2 : Z2 ρ₁ i = some ds) (h3 : f ρ₁ = .ok b ρ₂) (h4 : b.get ρ₂ = some (.int j)) (h5 : Z2 ρ₂ i = some ds') (h6 : 0 ≤ j ∧ j < ds'.length) (h7 : t.val = d) (h8 : List.set ρ₂ i (some (.ow true (.list (ds'.set j.toNat d)))) = ρ') : ZJ i f fT ρ = .ok .next ρ' := by
 subst h7; subst h8
 conv => lhs; whnf; rw [h1]; whnf; rw [h2]; whnf; rw [h3]; whnf; rw [h4, h5]
 exact if_pos h6
theorem Xc {n : Nat} {is : List Nat} {o : FOut} (ρ : AEnv) (hl : ds.length = is.length) (hi : OB n is ds = ρ) (h : sf ρ = s) (ho : Em s = o) : ZL n is sf ds = o := by subst hi; subst h; subst ho; exact if_pos hl
theorem Q3 : Em (.ok (.ret t) ρ) = .ok t := rfl
theorem Wp : Em (.ok .next ρ) = .ok (.sh .none) := rfl
theorem Zc {b : D → AEnv → Option AEnv} (h1 : b d ρ = some ρ₁) (h2 : sf ρ₁ = s) (h3 : Fx b sf ds s = s') : ZH b sf (d :: ds) ρ = s' := by
 subst h2; subst h3; conv => lhs; whnf; rw [h1]
 rfl
theorem Z4 (h : List.set ρ i (some (.sh d)) = ρ') : Xl i d ρ = some ρ' := congrArg some h
end
theorem ZC {α : Type} {n : Nat} : List.length ([] : List α) ≤ n := Nat.zero_le _
theorem ZG {α : Type} {n : Nat} {a : α} {l : List α} (h : l.length ≤ n) : (a :: l).length ≤ n + 1 := Nat.succ_le_succ h
theorem Zm {a b : Int} (h : b ≠ 0) : Yi (.int a) (.int b) = some (.sh (.int (a.fmod b))) := if_pos h
theorem Y0 {a b : Int} (h : b ≠ 0 ∧ b.natAbs < 1073741824) : U3 (.int a) (.int b) = some (.sh (.int (a.fdiv b))) := if_pos h
theorem WC {a b : Int} (h : (small a || small b) = true) : OR (.int a) (.int b) = some (.sh (.int (a * b))) := if_pos h
theorem Ur {ds : List D} (h : ds.length ≤ 1000000) : ZX [.tup ds] = some (.sh (.int ds.length)) := if_pos h
theorem XN {ds : List D} (h : ds.length ≤ 1000000) : ZX [.list ds] = some (.sh (.int ds.length)) := if_pos h
theorem JQ {a b : Int} (h : a ≤ b) : leI (.int a) (.int b) = some (.sh (.bool true)) := congrArg (fun b => some (T.sh (.bool b))) (decide_eq_true h)
theorem CT {a b : Int} (h : a < b) : ltI (.int a) (.int b) = some (.sh (.bool true)) := congrArg (fun b => some (T.sh (.bool b))) (decide_eq_true h)
theorem Fn {a b : Int} (h : ¬ a < b) : ltI (.int a) (.int b) = some (.sh (.bool false)) := congrArg (fun b => some (T.sh (.bool b))) (decide_eq_false h)
theorem CR (a : Int) : eqI (.int a) (.int a) = some (.sh (.bool true)) := by rw [CD, Uf.mpr rfl]
theorem CZ {a b : Int} (h : a ≠ b) : eqI (.int a) (.int b) = some (.sh (.bool false)) := by rw [CD, O8.mpr h]
theorem Ff (a b : Int) : neI (.int a) (.int b) = some (.sh (.bool !(eqZ a b))) := WH (Kw a b)
theorem FT (a : Int) : neI (.int a) (.int a) = some (.sh (.bool false)) := by rw [Ff, Uf.mpr rfl]; rfl
theorem Bd {ds : List D} {i : Int} (h0 : 0 ≤ i) (h1 : i < 2 ^ 63) : C7 ds i = ds[i.toNat]? := (if_pos h0).trans (if_pos h1)
theorem K5 {ds : List D} {i : Int} {d : D} (h0 : 0 ≤ i) (h1 : i < 2 ^ 63) (h : ds[i.toNat]? = some d) : QZ (.tup ds) (.int i) = some (.sh d) := congrArg (Option.map T.sh) ((Bd h0 h1).trans h)
theorem Xw {ds : List D} {i : Int} {d : D} (h0 : 0 ≤ i) (h1 : i < 2 ^ 63) (h : ds[i.toNat]? = some d) : QZ (.list ds) (.int i) = some (.sh d) := congrArg (Option.map T.sh) ((Bd h0 h1).trans h)
theorem VS {b : D → AEnv → Option AEnv} {sf : AEnv → Res Fl} (P : AEnv → List D → Prop) (hs : ∀ ρ d ds, P ρ (d :: ds) → ∃ ρ₁ ρ₂, b d ρ = some ρ₁ ∧ sf ρ₁ = .ok .next ρ₂ ∧ P ρ₂ ds) : ∀ (ds : List D) (ρ : AEnv), P ρ ds → ∃ ρ', ZH b sf ds ρ = .ok .next ρ' ∧ P ρ' []
 | [], ρ, hp => ⟨ρ, rfl, hp⟩
 | d :: ds, ρ, hp => by
  obtain ⟨ρ₁, ρ₂, h1, h2, h3⟩ := hs ρ d ds hp
  obtain ⟨ρ', h4, h5⟩ := VS P hs ds ρ₂ h3
  exact ⟨ρ', Zc h1 h2 (ForL.next h4), h5⟩
theorem ix0 {x : D} {l : List D} : QZ (.tup (x :: l)) (.int 0) = some (.sh x) := K5 (Int.le_refl _) (by decide) rfl
theorem ix1 {x y : D} {l : List D} : QZ (.tup (x :: y :: l)) (.int 1) = some (.sh y) := K5 (by decide) (by decide) rfl
theorem il0 {x : D} {l : List D} : QZ (.list (x :: l)) (.int 0) = some (.sh x) := Xw (Int.le_refl _) (by decide) rfl
theorem il1 {x y : D} {l : List D} : QZ (.list (x :: y :: l)) (.int 1) = some (.sh y) := Xw (by decide) (by decide) rfl
theorem Up {b : Int} (h : b.natAbs < 2 ^ 63) : small b = true := decide_eq_true h
theorem FA {ds : List D} {p : Nat} (h : p ≤ ds.length) : VY ds none (some (p : Int)) = ds.take p := by
 unfold VY
 simp only [Option.elim, List.drop_zero, clipAt_nat, Nat.sub_zero, Nat.min_eq_left h]
theorem D9 {ds : List D} {p : Nat} (h : p ≤ ds.length) : VY ds (some (p : Int)) none = ds.drop p := by
 unfold VY
 simp only [Option.elim, clipAt_nat, Nat.min_eq_left h]
 exact List.take_of_length_le (by rw [List.length_drop]; omega)
noncomputable def Gk (P : AEnv → Prop) (R : Res Fl → Prop) : Res Fl → Prop
 | .ok .next ρ => P ρ
 | .ok .cont ρ => P ρ
 | .ok .brk ρ => R (.ok .next ρ)
 | .ok (.ret t) ρ => R (.ok (.ret t) ρ)
 | .exc C ρ => R (.exc C ρ)
 | .stuck => False
theorem Bs {t : AEnv → Res Bool} {b : AEnv → Res Fl} (P : Nat → AEnv → Prop) (R : Res Fl → Prop) (hs : ∀ m ρ, P m ρ → (∃ ρ₁, t ρ = .ok false ρ₁ ∧ R (.ok .next ρ₁)) ∨ ∃ ρ₁ r, t ρ = .ok true ρ₁ ∧ b ρ₁ = r ∧ Gk (fun ρ' => ∃ m', m' < m ∧ P m' ρ') R r) : ∀ (n m : Nat) (ρ : AEnv), P m ρ → m < n → ∃ r, Oe n t b ρ = r ∧ R r
 | 0, _, _, _, h => absurd h (Nat.not_lt_zero _)
 | n + 1, m, ρ, hp, hm => by
  rcases hs m ρ hp with ⟨ρ₁, h1, h2⟩ | ⟨ρ₁, r, h1, h2, h3⟩
  ·refine ⟨_, ?_, h2⟩
   conv => lhs; whnf; rw [h1]
   rfl
  ·have key : ∀ ρ₂, (∃ m', m' < m ∧ P m' ρ₂) → ∃ r, Jg t b n ρ₂ = r ∧ R r := fun ρ₂ ⟨m', h4, h5⟩ => Bs P R hs n m' ρ₂ h5 (by omega)
   have e : Oe (n + 1) t b ρ = ((t ρ).bind fun c ρ₁ => if c then (b ρ₁).bind fun fl ρ₂ => (match fl with | .next => Jg t b n ρ₂ | .cont => Jg t b n ρ₂ | .brk => .ok .next ρ₂ | .ret t => .ok (.ret t) ρ₂) else .ok .next ρ₁) := rfl
   rw [e, h1]
   show ∃ r, ((b ρ₁).bind fun fl ρ₂ => (match fl with | .next => Jg t b n ρ₂ | .cont => Jg t b n ρ₂ | .brk => .ok .next ρ₂ | .ret t => .ok (.ret t) ρ₂)) = r ∧ R r
   rw [h2]
   cases r with
   | stuck => exact h3.elim
   | exc C ρ₂ => exact ⟨_, rfl, h3⟩
   | ok fl ρ₂ =>
    cases fl with
    | next => exact key _ h3
    | cont => exact key _ h3
    | brk => exact ⟨_, rfl, h3⟩
    | ret v => exact ⟨_, rfl, h3⟩
theorem FL {a b : Int} (h : b < a) : gtI (.int a) (.int b) = some (.sh (.bool true)) := congrArg (fun b => some (T.sh (.bool b))) (decide_eq_true h)
theorem Fi {a b : Int} (h : ¬ b < a) : gtI (.int a) (.int b) = some (.sh (.bool false)) := congrArg (fun b => some (T.sh (.bool b))) (decide_eq_false h)
theorem CS {p : Nat} (h : p ≤ 1000) : (0 : Int) ≤ (p : Int) ∧ (p : Int) < 2 ^ 63 := by omega
theorem Vm {ds : List D} {p : Nat} {d : D} (hp : p ≤ 1000) (h : ds[p]? = some d) : QZ (.list ds) (.int (p : Int)) = some (.sh d) := Xw (CS hp).1 (CS hp).2 h
theorem Bz {ds : List D} {p : Nat} {d : D} (hp : p ≤ 1000) (h : ds[p]? = some d) : QZ (.tup ds) (.int (p : Int)) = some (.sh d) := K5 (CS hp).1 (CS hp).2 h
theorem CP {n : Nat} (h : n ≤ 12) : n ≤ 1000000 := Nat.le_trans h (by decide)
theorem DV {n : Nat} (h : n ≤ 12) : n ≤ 1000 := Nat.le_trans h (by decide)
theorem Uc {xs ys : List D} (h : xs.length + ys.length ≤ 1000000) : Xk (.list xs) (.list ys) = some (.ow true (.list (xs ++ ys))) := if_pos h
theorem C0 {ds : List D} (h : ds.length ≤ 1000000) : Z0 [.tup ds] = some (.ow true (.list ds)) := if_pos h
theorem EJ {ds : List D} (h : ds.length ≤ 1000000) : Z0 [.list ds] = some (.ow true (.list ds)) := if_pos h
theorem EV {lo hi st : Int} (h : X9 lo hi st = true) : Z0 [.range lo hi st] = some (.ow true (.list (Ju lo hi st))) := if_pos h
theorem Eb {ds : List D} (h : ds.length ≤ 1000000) : XH [.list ds] = some (.sh (.tup ds)) := if_pos h
theorem DI {lo hi st : Int} (h : X9 lo hi st = true) : XH [.range lo hi st] = some (.sh (.tup (Ju lo hi st))) := if_pos h
theorem BM {lo hi st : Int} (h : X9 lo hi st = true) : Zr (.range lo hi st) = some (Ju lo hi st) := if_pos h
theorem BR {ds : List D} {lo hi : Option Int} (h : ds.length ≤ 1000000) : U0 (.list ds) lo hi = some (.ow true (.list (VY ds lo hi))) := if_pos h
theorem EH {ds : List D} {bs : List Bool} (h : UB ds = some bs) : E3 [.list ds] = some (.sh (.bool (bs.all id))) := congrArg (Option.map fun (bs : List Bool) => T.sh (.bool (bs.all id))) h
theorem Dg {ds : List D} {ns : List Int} (h : JE ds = some ns) (hl : ns.length < 64) : KL [.tup ds] = some (.ow true (.list ((Ul ns).map .int))) := (congrArg (fun (o : Option (List Int)) => Option.bind o fun (ns : List Int) => if ns.length < 64 then some (T.ow true (.list ((Ul ns).map .int))) else none) h).trans (if_pos hl)
theorem Dt {ds : List D} {d : D} (hl : ds.length ≤ 1000) : QZ (.list (ds ++ [d])) (.int (-1)) = some (.sh d) := by
 have hn : (ds ++ [d]).length = ds.length + 1 := List.length_append
 have e : C7 (ds ++ [d]) (-1) = (ds ++ [d])[((-1 : Int) + (ds ++ [d]).length).toNat]? := (if_neg (by decide)).trans (if_pos ⟨by decide, by rw [hn]; omega⟩)
 rw [hn, show ((-1 : Int) + ((ds.length + 1 : Nat) : Int)).toNat = ds.length by omega, List.getElem?_append_right (Nat.le_refl _), Nat.sub_self] at e
 exact congrArg (Option.map T.sh) e
end Mine
end

section
set_option Elab.async false
set_option maxRecDepth 100000
namespace Mine
open PySem
noncomputable def Gg (i : Nat) (F : List D → FOut) (r : Res (List Bv)) : Res T := r.bind fun bs ρ₁ => match XM ρ₁ (.var i :: bs) with
 | some ds => ZS (.var i :: bs) ρ₁ (F ds)
 | none => .stuck
theorem MtdK.ok {i : Nat} {F : List D → FOut} {o : FOut} {ρ : AEnv} {bs : List Bv} {ds : List D} {rT : Res T} (h : XM ρ (.var i :: bs) = some ds) (h2 : F ds = o) (h3 : ZS (.var i :: bs) ρ o = rT) : Gg i F (.ok bs ρ) = rT := by
 subst h2; subst h3; conv => lhs; whnf; rw [h]
section
variable {ρ ρ₁ ρ₂ ρ' : AEnv} {d y z : D} {i j : Nat} {b c : Bv} {bs : List Bv} {ds es : List D} {C : Addr} {n : Str} {ns : List Str} {kk : List Int} {ks : List (List Int)} {fa : AEnv → Res (List Bv)} {f g : AEnv → Res Bv} {fT gT : AEnv → Res T} {rL : Res (List Bv)} {rT : Res T} {p p' : List (List Int) × List D}
theorem ZR (h : ρ[i]? = some (some (.sh (.obj C ns ds)))) (h2 : KO n ns ds = some d) (h3 : Wu d = true) : Uq C n i ρ = .ok (.sh d) ρ := by
 conv => lhs; whnf; rw [h]
 refine (if_pos rfl).trans ?_
 conv => lhs; rw [h2]
 exact if_pos h3
theorem Jz {F : List D → FOut} (h : ρ[i]? = some (some (.sh (.obj C ns es)))) (hn : ns.contains n = false) (h1 : fa ρ = rL) (h2 : Gg i F rL = rT) : Ow C n i F fa ρ = rT := by
 subst h1; subst h2
 conv => lhs; whnf; rw [h]
 exact if_pos ⟨rfl, fun q => by rw [List.contains_iff_mem.mpr q] at hn; cases hn⟩
theorem EI {I : Addr → List D → IOut} (h1 : fa ρ = .ok bs ρ₁) (h2 : XM ρ₁ bs = some ds) (h3 : bs.all (ZQ ρ₁) = true) (h4 : Ku I ds = .ok es) : Vg C ns I fa ρ = .ok (.sh (.obj C ns es)) ρ₁ := by
 conv => lhs; whnf; rw [h1]; whnf; rw [h2]
 refine (if_pos h3).trans ?_
 conv => lhs; rw [h4]
theorem KF (h : List.set ρ i (some (.ow true (.dict [] []))) = ρ') : CN i ρ = .ok .next ρ' := congrArg (Res.ok Fl.next) h
theorem VK {m : Bool} (h : ρ[i]? = some (some (.ow m (.dict ks ds)))) : Ys ρ i = some (ks, ds) := by conv => lhs; whnf; rw [h]
theorem KG (h : ρ[i]? = some (some (.ow true (.dict ks ds)))) (hl : ks.length ≤ 1000000) : Jr ρ i = some (ks, ds) := by
 conv => lhs; whnf; rw [h]
 exact if_pos hl
theorem KJ {neg r : Bool} (h1 : f ρ = .ok b ρ₁) (h2 : b.get ρ₁ = some y) (h3 : Ys ρ₁ i = some (ks, ds)) (h4 : JX y = some kk) (h5 : ((Xd kk ks).isSome != neg) = r) : C3 neg f i ρ = .ok r ρ₁ := by subst h5; conv => lhs; whnf; rw [h1]; whnf; rw [h2, h3]; whnf; rw [h4]
theorem KH (h0 : Ys ρ i = some p) (h1 : f ρ = .ok b ρ₁) (h2 : b.get ρ₁ = some y) (h3 : Ys ρ₁ i = some (ks, ds)) (h4 : JX y = some kk) (h5 : Xd kk ks = some j) (h6 : ds[j]? = some d) : Vd i f ρ = .ok (.sh d) ρ₁ := by conv => lhs; whnf; rw [h0]; whnf; rw [h1]; whnf; rw [h2, h3]; whnf; rw [h4]; whnf; rw [h5]; whnf; rw [h6]
theorem Ky {t : T} (h0 : gT ρ = .ok t ρ₁) (hv : t.val = d) (h1 : Jr ρ₁ i = some p) (h2 : f ρ₁ = .ok b ρ₂) (h3 : b.get ρ₂ = some y) (h4 : Jr ρ₂ i = some (ks, ds)) (h5 : JX y = some kk) (h6 : List.set ρ₂ i (some (.ow true (.dict (Bf kk ks) (Bg kk d ks ds)))) = ρ') : K4 i f gT ρ = .ok .next ρ' := by subst hv; subst h6; conv => lhs; whnf; rw [h0]; whnf; rw [h1]; whnf; rw [h2]; whnf; rw [h3, h4]; whnf; rw [h5]
theorem J9 {v : Int} : Wu (.int v) = true := rfl
theorem Kz {ds : List D} : Wu (.list ds) = true := rfl
theorem Vt {i j : Nat} {x y : D} {ρ ρ₁ ρ₂ : AEnv} (h1 : List.set ρ i (some (.sh x)) = ρ₁) (h2 : List.set ρ₁ j (some (.sh y)) = ρ₂) : Je [i, j] (.tup [x, y]) ρ = some ρ₂ := by
 subst h1 h2; rfl
end
end Mine
end

section
set_option Elab.async false
set_option maxRecDepth 100000
namespace Mine
open PySem
section
variable {ρ ρ₁ ρ₂ ρ' : AEnv} {i j : Nat} {d x y : D} {xs ys : List D} {a b : T} {f g : AEnv → Res T} {t : AEnv → Res Bool} {r : Res Fl}
theorem Oi (h1 : f ρ = .ok a ρ₁) (h2 : a.val = d) : V4 f ρ = .ok (.sh d) ρ₁ := by
 subst h2; conv => lhs; whnf; rw [h1]
theorem D3 (h : t ((ρ.set i (some (.sh x))).set j (some (.sh y))) = .ok false ρ') : Wm t i j (x :: xs) (y :: ys) ρ = Wm t i j xs ys ((ρ.set i (some (.sh x))).set j (some (.sh y))) := by
 conv => lhs; whnf; rw [h]
theorem VL (h1 : f ρ = .ok a ρ₁) (h2 : a.val = .list xs) (h3 : g ρ₁ = .ok b ρ₂) (h4 : b.val = .tup ys) (h5 : Za ρ₂ = true) (h6 : xs.length = ys.length) (h7 : Wm t i j xs ys ρ₂ = r) : Br i j f g t ρ = r := by
 subst h7
 conv => lhs; whnf; rw [h1]
 show ((g ρ₁).bind fun b ρ₂ => match a.val, b.val with
  | .list xs, .tup ys => if Za ρ₂ = true ∧ xs.length = ys.length then Wm t i j xs ys ρ₂ else .stuck
  | _, _ => .stuck) = _
 rw [h2, h3]
 show (match D.list xs, b.val with
  | .list xs, .tup ys => if Za ρ₂ = true ∧ xs.length = ys.length then Wm t i j xs ys ρ₂ else .stuck
  | _, _ => .stuck) = _
 rw [h4]
 exact if_pos ⟨h5, h6⟩
end
end Mine
end

section
set_option Elab.async false
set_option maxRecDepth 100000
set_option maxHeartbeats 4000000
namespace Mine
open PySem PyProof.Rows
noncomputable def gd (p : Program) (w : World) (B : Heap) (mg mb : Str → Option Value) (q : Bool) : Gd := ⟨p, w, B, mg, mb, hd.heap_1 w.params, q⟩
noncomputable def Og (K : W.Frag) : AEnv → Res Fl := (Qn (XZ (eBo .And (Qc (QQ (QV K) (Qa (eOp 0) (Qa (Qc (Qd (.glob (.type "int")))) Qj)))) (U9 FE (Qc (QQ (QV K) (Qa (eOp 0) (Qa (Qc (Qd (.glob (.type "bool")))) Qj))))))) QB)
noncomputable def Xx (K : W.Frag) : List D → FOut := ZL 1 [0] (Og K)
variable {p : Program} {w : World} {B : Heap} {mg mb : Str → Option Value}
theorem Yp (g : Gr (gd p w B mg mb true)) : Zt (gd p w B mg mb true) 1 (.ref 113) (Xx (gd p w B mg mb true).K) :=
 fnI g 113 1 [0] (f := Og (gd p w B mg mb true).K) (Qb (Qr (Jv (Jy (Qg.of (cB g (.builtin "isinstance") (QT g.ok) (aC (nB 0) (aC (Qg.of (gB g (.type "int"))) Qe)))) (UD (Zw (Qg.of (cB g (.builtin "isinstance") (QT g.ok) (aC (nB 0) (aC (Qg.of (gB g (.type "bool"))) Qe)))) Ft))))) Qh) (OM fun _ => by kernel_rfl)
noncomputable def JL (K : W.Frag) : AEnv → Res Fl := (Qn (sIf (eOr (Zj (Xi (Qc (QF (Xx K) (Qa (eOp 0) Qj))))) (eOr (Zj (ZU leI leI (Qc (Qd (.int 3))) (eOp 0) (Qc (Qd (.int 12))))) X7)) (Qn (fun _ => .stuck) QB) QB) QB)
noncomputable def Z1 (K : W.Frag) : List D → FOut := ZL 1 [0] (JL K)
theorem UU (g : Gr (gd p w B mg mb true)) : Zt (gd p w B mg mb true) 2 (.ref 120) (Z1 (gd p w B mg mb true).K) :=
 fnI g 120 1 [0] (f := JL (gd p w B mg mb true).K) (Qb (Q6 (Q7 (QH (QY (ZE (Qg.of (cF g 113 (Yp g) (aC (nB 0) Qe))))) (QH (QY (chT (Qg.of (gI g 3 312)) (nB 0) (Qg.of (gI g 12 314)) JW JW)) Q2))) (Qb Zu Qh) Qh) Qh) (OM fun _ => by kernel_rfl)
noncomputable def KS (K : W.Frag) : AEnv → Res Fl := (Qn (ZN (Qc (QF (Z1 K) (Qa (eOp 0) Qj)))) (Qn (XZ (QQ XH (Qa (Qc (QQ Xp (Qa (eOp 0) Qj))) Qj))) QB))
noncomputable def Uj (K : W.Frag) : List D → FOut := ZL 1 [0] (KS K)
theorem O2 (g : Gr (gd p w B mg mb true)) : Zt (gd p w B mg mb true) 3 (.ref 132) (Uj (gd p w B mg mb true).K) :=
 fnI g 132 1 [0] (f := KS (gd p w B mg mb true).K) (Qb (WV (Qg.of (cF g 120 (UU g) (aC (nB 0) Qe))) (fun _ => rfl)) (Qb (Qr (cB g (.type "tuple") (Zv rfl) (aC (Qg.of (cB g (.type "range") XV (aC (nB 0) Qe))) Qe))) Qh)) (OM fun _ => by kernel_rfl)
noncomputable def Ji (K : W.Frag) : AEnv → Res Fl := (Qn (CN 1) (Qn (UX (Vi (XJ 0)) (Je [2, 3]) (Qn (sIf (C3 false (eOp 3) 1) (Qn (XZ (UM (QI (Vd 1 (eOp 3)) (QI (XJ 2) Zp)))) QB) QB) (Qn (K4 1 (eOp 3) (XJ 2)) QB))) (Qn (XZ (Qd .none)) QB)))
noncomputable def Zg (K : W.Frag) : List D → FOut := ZL 4 [0] (Ji K)
theorem Oj (g : Gr (gd p w B mg mb true)) : Zt (gd p w B mg mb true) 1 (.ref 139) (Zg (gd p w B mg mb true).K) :=
 fnI g 139 4 [0] (f := Ji (gd p w B mg mb true).K) (Qb (O6 g.ok (i := 1)) (Qb (OV (enu g (nV 0)) (Gw 2 3) (Qb (Q6 (BO (i := 1) (nB 3)) (Qb (Qr (XX (vC (Bj (i := 1) (nB 3)) (vC (nV 2) QO)))) Qh) Qh) (Qb (Vl (i := 1) (nB 3) (nV 2)) Qh))) (Qb (Qr Ud) Qh))) (OM fun _ => by kernel_rfl)
noncomputable def YT (K : W.Frag) : AEnv → Res Fl := (Qn (XZ (QQ Z0 (Qa (Qc (Uq 233 "ways" 0)) Qj))) QB)
noncomputable def ZZ (K : W.Frag) : List D → FOut := ZL 1 [0] (YT K)
theorem Kk (g : Gr (gd p w B mg mb true)) : Zt (gd p w B mg mb true) 1 (.ref 195) (ZZ (gd p w B mg mb true).K) :=
 fnI g 195 1 [0] (f := YT (gd p w B mg mb true).K) (Qb (Qr (cB g (.type "list") (Yy rfl) (aC (Qg.of (atr g 233 0)) Qe))) Qh) (OM fun _ => by kernel_rfl)
noncomputable def WQ (K : W.Frag) : AEnv → Res Fl := (Qn (Qw 2 (QQ Z0 (Qa (eOp 0) Qj))) (Qn (UX (Zh (XJ 1)) (Xl 3) (Qn (ZJ 2 (eOp 3) (Qp QZ (eOp 0) (Qc (Qp Xk (eOp 3) (Qc (Qd (.int 1))))))) (Qn (ZJ 2 (Qc (Qp Xk (eOp 3) (Qc (Qd (.int 1))))) (Qp QZ (eOp 0) (eOp 3))) QB))) (Qn (XZ (QQ XH (Qa (eOp 2) Qj))) QB)))
noncomputable def YF (K : W.Frag) : List D → FOut := ZL 4 [0, 1] (WQ K)
theorem OA (g : Gr (gd p w B mg mb true)) : Zt (gd p w B mg mb true) 1 (.ref 167) (YF (gd p w B mg mb true).K) :=
 fnI g 167 4 [0, 1] (f := WQ (gd p w B mg mb true).K) (Qb (asg 2 (cB g (.type "list") (Yy rfl) (aC (nB 0) Qe))) (Qb (OV (Zo (nV 1)) (tgN 3) (Qb (Gb 2 (nB 3) (sub (nB 0) (Qg.of (Ql (nB 3) (Qg.of Qi) Xq)))) (Qb (Gb 2 (Qg.of (Ql (nB 3) (Qg.of Qi) Xq)) (sub (nB 0) (nB 3))) Qh))) (Qb (Qr (cB g (.type "tuple") (Zv rfl) (aC (nB 2) Qe))) Qh))) (Ks fun _ _ => by kernel_rfl)
noncomputable def Oh (K : W.Frag) : AEnv → Res Fl := (Qn (sIf (eOr (Zj (Xi (Qc (QQ (QV K) (Qa (eOp 0) (Qa (Qc (Qd (.glob (.type "tuple")))) Qj)))))) (eOr (Zj (ZU leI leI (Qc (Qd (.int 3))) (Qc (QQ ZX (Qa (eOp 0) Qj))) (Qc (Qd (.int 12))))) X7)) (Qn (XZ (Qd (.bool false))) QB) QB) (Qn (sIf (Zj (Xi (Qc (QQ E3 (Qa (Qc (Ja [none, none] (Zh (XJ 0)) (Xl 1) K6 (QF (Xx K) (Qa (eOp 1) Qj)))) Qj))))) (Qn (XZ (Qd (.bool false))) QB) QB) (Qn (XZ (Qp eqI (Qc (QQ KL (Qa (eOp 0) Qj))) (Qc (QQ Z0 (Qa (Qc (QQ Xp (Qa (Qc (QQ ZX (Qa (eOp 0) Qj))) Qj))) Qj))))) QB)))
noncomputable def J0 (K : W.Frag) : List D → FOut := ZL 1 [0] (Oh K)
theorem DF (g : Gr (gd p w B mg mb true)) : Zt (gd p w B mg mb true) 2 (.ref 125) (J0 (gd p w B mg mb true).K) :=
 fnI g 125 1 [0] (f := Oh (gd p w B mg mb true).K) (Qb (Q6 (Q7 (QH (QY (ZE (Qg.of (cB g (.builtin "isinstance") (QT g.ok) (aC (nB 0) (aC (Qg.of (gB g (.type "tuple"))) Qe)))))) (QH (QY (chT (Qg.of (gI g 3 312)) (Qg.of (cB g (.builtin "len") XT (aC (nB 0) Qe))) (Qg.of (gI g 12 314)) JW JW)) Q2))) (Qb (Qr Z8) Qh) Qh) (Qb (Q6 (QY (ZE (Qg.of (cB g (.builtin "all") (FH rfl) (aC (Qg.of (lc [none, none] (Zo (nV 0)) (tgN 1) Uz (cF g 113 (Yp g) (aC (nB 1) Qe)))) Qe))))) (Qb (Qr Z8) Qh) Qh) (Qb (Qr (V8 (Qg.of (cB g (.builtin "sorted") Dv (aC (nB 0) Qe))) (Qg.of (cB g (.type "list") (Yy rfl) (aC (Qg.of (cB g (.type "range") XV (aC (Qg.of (cB g (.builtin "len") XT (aC (nB 0) Qe))) Qe))) Qe))) Yq)) Qh))) (OM fun _ => by kernel_rfl)
noncomputable def ZW (K : W.Frag) : AEnv → Res Fl := (Qn (sIf (eOr (Zj (Xi (Qc (QF (J0 K) (Qa (eOp 1) Qj))))) (eOr (Xj neI (Qc (QQ ZX (Qa (eOp 1) Qj))) (Qc (Uq 233 "bells" 0))) X7)) (Qn (fun _ => .stuck) QB) QB) QB)
noncomputable def X6 (K : W.Frag) : List D → FOut := ZL 2 [0, 1] (ZW K)
theorem UH (g : Gr (gd p w B mg mb true)) : Zt (gd p w B mg mb true) 3 (.ref 209) (X6 (gd p w B mg mb true).K) :=
 fnI g 209 2 [0, 1] (f := ZW (gd p w B mg mb true).K) (Qb (Q6 (Q7 (QH (QY (ZE (Qg.of (cF g 125 (DF g) (aC (nB 1) Qe))))) (QH (Yw (Qg.of (cB g (.builtin "len") XT (aC (nB 1) Qe))) (Qg.of (atr g 233 0)) Wl) Q2))) (Qb Zu Qh) Qh) Qh) (Ks fun _ _ => by kernel_rfl)
noncomputable def Y6 (K : W.Frag) : AEnv → Res Fl := (Qn (ZN (Qc (Ow 233 "need_head" 0 (X6 K) (Qa (eOp 1) Qj)))) (Qn (Qw 2 (YB (QI (XJ 1) Zp))) (Qn (UX (Zh (Uq 233 "steps" 0)) (Xl 3) (Qn (ZN (Qc (ZT 2 (QF (YF K) (Qa (Qc (Qp QZ (eOp 2) (Qc (U9 JC (Qc (Qd (.int 1))))))) (Qa (eOp 3) Qj)))))) QB)) (Qn (Ym 2) QB))))
noncomputable def ZI (K : W.Frag) : List D → FOut := ZL 4 [0, 1] (Y6 K)
theorem Ub (g : Gr (gd p w B mg mb true)) : Zt (gd p w B mg mb true) 4 (.ref 223) (ZI (gd p w B mg mb true).K) :=
 fnI g 223 4 [0, 1] (f := Y6 (gd p w B mg mb true).K) (Qb (exM (Wj.of (mtd g 233 209 0 (UH g) (aC (nB 1) Qe)))) (Qb (asg 2 (XG (vC (nV 1) QO))) (Qb (OV (Zo (atr g 233 0)) (tgN 3) (Qb (exM (ES 2 (Wj.of (cF g 167 (OA g) (aC (Qg.of (sub (nB 2) (Qg.of (Zw (Qg.of Qi) W5)))) (aC (nB 3) Qe)))))) Qh)) (Qb (EQ 2) Qh)))) (Ks fun _ _ => by kernel_rfl)
noncomputable def ZV (K : W.Frag) : AEnv → Res Fl := (Qn (sIf (eOr (Zj (Xi (Qc (QF (Xx K) (Qa (eOp 1) Qj))))) (eOr (Zj (ZU leI ltI (Qc (Qd (.int 0))) (eOp 1) (Qc (QQ ZX (Qa (Qc (Uq 233 "ways" 0)) Qj))))) X7)) (Qn (fun _ => .stuck) QB) QB) QB)
noncomputable def X4 (K : W.Frag) : List D → FOut := ZL 2 [0, 1] (ZV K)
theorem UK (g : Gr (gd p w B mg mb true)) : Zt (gd p w B mg mb true) 2 (.ref 216) (X4 (gd p w B mg mb true).K) :=
 fnI g 216 2 [0, 1] (f := ZV (gd p w B mg mb true).K) (Qb (Q6 (Q7 (QH (QY (ZE (Qg.of (cF g 113 (Yp g) (aC (nB 1) Qe))))) (QH (QY (chT (Qg.of Qi) (nB 1) (Qg.of (cB g (.builtin "len") XT (aC (Qg.of (atr g 233 0)) Qe))) JW CO)) Q2))) (Qb Zu Qh) Qh) Qh) (Ks fun _ _ => by kernel_rfl)
noncomputable def YQ (K : W.Frag) : AEnv → Res Fl := (Qn (Qw 3 (Ow 233 "lead" 0 (ZI K) (Qa (eOp 1) Qj))) (Qn (ZN (Qc (Ow 233 "need_call" 0 (X4 K) (Qa (eOp 2) Qj)))) (Qn (XZ (QF (YF K) (Qa (Qc (Qp QZ (eOp 3) (Qc (U9 JC (Qc (Qd (.int 1))))))) (Qa (Qc (Qp QZ (Qc (Uq 233 "ways" 0)) (eOp 2))) Qj)))) QB)))
noncomputable def Zy (K : W.Frag) : List D → FOut := ZL 4 [0, 1, 2] (YQ K)
theorem Kq (g : Gr (gd p w B mg mb true)) : Zt (gd p w B mg mb true) 5 (.ref 230) (Zy (gd p w B mg mb true).K) :=
 fnI g 230 4 [0, 1, 2] (f := YQ (gd p w B mg mb true).K) (Qb (asg 3 (mtd g 233 223 0 (Ub g) (aC (nB 1) Qe))) (Qb (exM (Wj.of (mtd g 233 216 0 (UK g) (aC (nB 2) Qe)))) (Qb (Qr (cF g 167 (OA g) (aC (Qg.of (sub (nB 3) (Qg.of (Zw (Qg.of Qi) W5)))) (aC (Qg.of (sub (Qg.of (atr g 233 0)) (nB 2))) Qe)))) Qh))) (F8 fun _ _ _ => by kernel_rfl)
noncomputable def UC (K : W.Frag) (R : List D → FOut) : AEnv → Res Fl := (Qn (sIf (Xj eqI (Qc (QQ ZX (Qa (eOp 2) Qj))) (eOp 1)) (Qn (sIf (Xj eqI (eOp 4) (Qc (QF (Uj K) (Qa (Qc (Uq 233 "bells" 0)) Qj)))) (Qn (XZ (UM (QI (Qd (.str "touch")) (QI (XJ 2) Zp)))) QB) QB) (Qn (XZ (UM (QI (Qd (.str "away")) Zp))) QB)) QB) (Qn (Qw 5 (Qp Xk (eOp 3) (Qc (Ow 233 "lead" 0 (ZI K) (Qa (eOp 4) Qj))))) (Qn (Qw 6 (QF (Zg K) (Qa (Qc (XJ 5)) Qj))) (Qn (sIf (Xj J5 (eOp 6) (Qc (Qd .none))) (Qn (XZ (UM (QI (Qd (.str "clash")) (QI (Qp QZ (eOp 6) (Qc (Qd (.int 0)))) (QI (Qp QZ (eOp 6) (Qc (Qd (.int 1)))) Zp))))) QB) QB) (Qn (Qw 7 (YB Zp)) (Qn (UX (Zh (QQ Xp (Qa (Qc (QQ ZX (Qa (Qc (Ow 233 "calls" 0 (ZZ K) Qj)) Qj))) Qj))) (Xl 8) (Qn (Qw 9 (QF R (Qa (Qc (XJ 0)) (Qa (Qc (XJ 1)) (Qa (Qc (Qp Xk (eOp 2) (Qc (YB (QI (XJ 8) Zp))))) (Qa (Qc (XJ 5)) (Qa (Qc (Ow 233 "after" 0 (Zy K) (Qa (eOp 4) (Qa (eOp 8) Qj)))) Qj))))))) (Qn (sIf (Xj eqI (Qc (Qp QZ (eOp 9) (Qc (Qd (.int 0))))) (Qc (Qd (.str "touch")))) (Qn (Ym 9) QB) QB) (Qn (ZN (Qc (ZT 7 (XJ 9)))) QB)))) (Qn (XZ (UM (QI (Qd (.str "ask")) (QI (QQ XH (Qa (eOp 7) Qj)) Zp)))) QB)))))))
noncomputable def Yx (K : W.Frag) : Nat → List D → FOut
 | 0 => fun _ => .stuck
 | d + 1 => ZL 10 [0, 1, 2, 3, 4] (UC K (Yx K d))
theorem ED (g : Gr (gd p w B mg mb true)) (d : Nat) : Zt (gd p w B mg mb true) (5 + d) (.ref 146) (Yx (gd p w B mg mb true).K d) := by
 induction d with
 | zero => exact CY
 | succ d ih => exact fnI g (k := 5 + d) 146 10 [0, 1, 2, 3, 4] (f := UC (gd p w B mg mb true).K (Yx (gd p w B mg mb true).K d)) (Qb (Q6 (Yw (Qg.of (cB g (.builtin "len") XT (aC (nB 2) Qe))) (nB 1) Yq) (Qb (Q6 (Yw (nB 4) (Qg.of (cF g 132 (O2 g) (aC (Qg.of (atr g 233 0)) Qe) (by omega))) Yq) (Qb (Qr (XX (vC Zn (vC (nV 2) QO)))) Qh) Qh) (Qb (Qr (XX (vC Zn QO))) Qh)) Qh) (Qb (asg 5 (Ql (nB 3) (Qg.of (mtd g 233 223 0 (Ub g) (aC (nB 4) Qe) (by omega))) Xq)) (Qb (asg 6 (cF g 139 (Oj g) (aC (Qg.of (nV 5)) Qe) (by omega))) (Qb (Q6 (Yw (nB 6) (Qg.of Ud) Ba) (Qb (Qr (XX (vC Zn (vC (sub (nB 6) (Qg.of Qi)) (vC (sub (nB 6) (Qg.of Qi)) QO))))) Qh) Qh) (Qb (asg 7 (XG QO)) (Qb (OV (Zo (cB g (.type "range") XV (aC (Qg.of (cB g (.builtin "len") XT (aC (Qg.of (mtd g 233 195 0 (Kk g) Qe (by omega))) Qe))) Qe))) (tgN 8) (Qb (asg 9 (cF g 146 ih (aC (Qg.of (nV 0)) (aC (Qg.of (nV 1)) (aC (Qg.of (Ql (nB 2) (Qg.of (XG (vC (nV 8) QO))) Xq)) (aC (Qg.of (nV 5)) (aC (Qg.of (mtd g 233 230 0 (Kq g) (aC (nB 4) (aC (nB 8) Qe)) (by omega))) Qe))))) (by omega))) (Qb (Q6 (Yw (Qg.of (sub (nB 9) (Qg.of Qi))) (Qg.of Zn) Yq) (Qb (EQ 9) Qh) Qh) (Qb (exM (ES 7 (Wj.of (nV 9)))) Qh)))) (Qb (Qr (XX (vC Zn (vC (cB g (.type "tuple") (Zv rfl) (aC (nB 7) Qe)) QO)))) Qh))))))) (Fw fun _ _ _ _ _ => by kernel_rfl)
noncomputable def Wg (K : W.Frag) : AEnv → Res Fl := (Qn (sIf (eOr (Zj (Xi (Qc (QF (Xx K) (Qa (eOp 1) Qj))))) (eOr (Zj (ZU leI leI (Qc (Qd (.int 1))) (eOp 1) (Qc (Qd (.int 12))))) X7)) (Qn (fun _ => .stuck) QB) QB) (Qn (Qw 2 (QF (Yx K 14) (Qa (eOp 0) (Qa (eOp 1) (Qa (Qc (YB Zp)) (Qa (Qc (YB Zp)) (Qa (Qc (QF (Uj K) (Qa (Qc (Uq 233 "bells" 0)) Qj))) Qj))))))) (Qn (sIf (Xj eqI (Qc (Qp QZ (eOp 2) (Qc (Qd (.int 0))))) (Qc (Qd (.str "touch")))) (Qn (Ym 2) QB) QB) (Qn (XZ (UM (QI (Qd (.str "none")) (QI (XJ 2) Zp)))) QB))))
noncomputable def Zx (K : W.Frag) : List D → FOut := ZL 3 [0, 1] (Wg K)
theorem Y3 (g : Gr (gd p w B mg mb true)) : Zt (gd p w B mg mb true) 20 (.ref 153) (Zx (gd p w B mg mb true).K) :=
 fnI g 153 3 [0, 1] (f := Wg (gd p w B mg mb true).K) (Qb (Q6 (Q7 (QH (QY (ZE (Qg.of (cF g 113 (Yp g) (aC (nB 1) Qe))))) (QH (QY (chT (Qg.of Qi) (nB 1) (Qg.of (gI g 12 357)) JW JW)) Q2))) (Qb Zu Qh) Qh) (Qb (asg 2 (cF g 146 (ED g 14) (aC (nB 0) (aC (nB 1) (aC (Qg.of (XG QO)) (aC (Qg.of (XG QO)) (aC (Qg.of (cF g 132 (O2 g) (aC (Qg.of (atr g 233 0)) Qe))) Qe))))))) (Qb (Q6 (Yw (Qg.of (sub (nB 2) (Qg.of Qi))) (Qg.of Zn) Yq) (Qb (EQ 2) Qh) Qh) (Qb (Qr (XX (vC Zn (vC (nV 2) QO)))) Qh)))) (Ks fun _ _ => by kernel_rfl)
noncomputable def U5 (K : W.Frag) : AEnv → Res Fl := (Qn (sIf (Xj ltI (eOp 1) (Qc (QQ ZX (Qa (eOp 0) Qj)))) (Qn (XZ (Qp QZ (eOp 0) (eOp 1))) QB) QB) (Qn (XZ (Qd (.int 0))) QB))
noncomputable def Xo (K : W.Frag) : List D → FOut := ZL 2 [0, 1] (U5 K)
theorem YY (g : Gr (gd p w B mg mb true)) : Zt (gd p w B mg mb true) 1 (.ref 244) (Xo (gd p w B mg mb true).K) :=
 fnI g 244 2 [0, 1] (f := U5 (gd p w B mg mb true).K) (Qb (Q6 (Yw (nB 1) (Qg.of (cB g (.builtin "len") XT (aC (nB 0) Qe))) CO) (Qb (Qr (sub (nB 0) (nB 1))) Qh) Qh) (Qb (Qr Qi) Qh)) (Ks fun _ _ => by kernel_rfl)
noncomputable def W4 (K : W.Frag) : AEnv → Res Fl := (Qn (XZ (Qp Yi (Qc (Qp Xk (Qc (Qp Xk (Qc (Qp Xk (Qc (Qp OR (eOp 0) (Qc (Qd (.int 48271))))) (Qc (Qp OR (Qc (Qp OR (Qc (Qd (.int 7919))) (eOp 1))) (eOp 1))))) (Qc (Qp OR (Qc (Qd (.int 104729))) (eOp 1))))) (Qc (Qd (.int 12345))))) (Qc (Qd (.int 2147483647))))) QB)
noncomputable def XO (K : W.Frag) : List D → FOut := ZL 2 [0, 1] (W4 K)
theorem JM (g : Gr (gd p w B mg mb true)) : Zt (gd p w B mg mb true) 1 (.ref 251) (XO (gd p w B mg mb true).K) :=
 fnI g 251 2 [0, 1] (f := W4 (gd p w B mg mb true).K) (Qb (Qr (Ql (Qg.of (Ql (Qg.of (Ql (Qg.of (Ql (Qg.of (Ql (nB 0) (Qg.of Qi) KC)) (Qg.of (Ql (Qg.of (Ql (Qg.of Qi) (nB 1) KC)) (nB 1) KC)) Xq)) (Qg.of (Ql (Qg.of Qi) (nB 1) KC)) Xq)) (Qg.of Qi) Xq)) (Qg.of Qi) Yc)) Qh) (Ks fun _ _ => by kernel_rfl)
noncomputable def YC (K : W.Frag) : AEnv → Res Fl := (Qn (Qw 2 (YB Zp)) (Qn (Qw 3 (Qd (.int 0))) (Qn (Oe 1000 (Xj ltI (eOp 3) (Qc (Qp YO (eOp 1) (Qc (Qd (.int 1)))))) (Qn (sIf (Xj gtI (Qc (Qp Yi (Qc (Qp U3 (Qc (QF (XO K) (Qa (eOp 0) (Qa (eOp 3) Qj)))) (Qc (Qd (.int 5))))) (Qc (Qd (.int 3))))) (Qc (Qd (.int 0)))) (Qn (ZN (Qc (ZT 2 (XJ 3)))) (Qn (Qw 3 (Qp Xk (eOp 3) (Qc (Qd (.int 1))))) QB)) QB) (Qn (Qw 3 (Qp Xk (eOp 3) (Qc (Qd (.int 1))))) QB))) (Qn (sIf (Xj eqI (eOp 2) (Qc (YB Zp))) (Qn (Qw 2 (YB (QI (Qp Yi (Qc (QF (XO K) (Qa (eOp 0) (Qa (Qc (Qd (.int 20))) Qj)))) (Qc (Qp YO (eOp 1) (Qc (Qd (.int 1)))))) Zp))) QB) QB) (Qn (XZ (QQ XH (Qa (eOp 2) Qj))) QB)))))
noncomputable def Xm (K : W.Frag) : List D → FOut := ZL 4 [0, 1] (YC K)
theorem UT (g : Gr (gd p w B mg mb true)) : Zt (gd p w B mg mb true) 2 (.ref 258) (Xm (gd p w B mg mb true).K) :=
 fnI g 258 4 [0, 1] (f := YC (gd p w B mg mb true).K) (Qb (asg 2 (XG QO)) (Qb (asg 3 Qi) (Qb (Cy (Yw (nB 3) (Qg.of (Ql (nB 1) (Qg.of Qi) Wd)) CO) (Qb (Q6 (Yw (Qg.of (Ql (Qg.of (Ql (Qg.of (cF g 251 (JM g) (aC (nB 0) (aC (nB 3) Qe)))) (Qg.of Qi) U6)) (Qg.of Qi) Yc)) (Qg.of Qi) Fm) (Qb (exM (ES 2 (Wj.of (nV 3)))) (Qb (asg 3 (Ql (nB 3) (Qg.of Qi) Xq)) Qh)) Qh) (Qb (asg 3 (Ql (nB 3) (Qg.of Qi) Xq)) Qh))) (Qb (Q6 (Yw (nB 2) (Qg.of (XG QO)) Yq) (Qb (asg 2 (XG (vC (Ql (Qg.of (cF g 251 (JM g) (aC (nB 0) (aC (Qg.of Qi) Qe)))) (Qg.of (Ql (nB 1) (Qg.of Qi) Wd)) Yc) QO))) Qh) Qh) (Qb (Qr (cB g (.type "tuple") (Zv rfl) (aC (nB 2) Qe))) Qh))))) (Ks fun _ _ => by kernel_rfl)
noncomputable def Js (K : W.Frag) : AEnv → Res Fl := (Qn (Qw 1 (QF (Xo K) (Qa (eOp 0) (Qa (Qc (Qd (.int 0))) Qj)))) (Qn (Qw 2 (Qp Xk (Qc (Qd (.int 3))) (Qc (Qp QZ (Qc (YB (QI (Qd (.int 0)) (QI (Qd (.int 1)) (QI (Qp Yi (Qc (Qp U3 (eOp 1) (Qc (Qd (.int 4))))) (Qc (Qd (.int 10)))) (QI (Qp Yi (Qc (Qp U3 (eOp 1) (Qc (Qd (.int 4))))) (Qc (Qd (.int 10)))) Zp)))))) (Qc (Qp Yi (eOp 1) (Qc (Qd (.int 4))))))))) (Qn (Qw 3 (QF (Xo K) (Qa (eOp 0) (Qa (Qc (Qd (.int 1))) Qj)))) (Qn (Qw 4 (Qp QZ (Qc (YB (QI (Qd (.int 0)) (QI (Qd (.int 1)) (QI (Qd (.int 2)) (QI (Qd (.int 3)) (QI (Qd (.int 0)) (QI (Qd (.int 1)) (QI (Qd (.int 5)) Zp))))))))) (Qc (Qp Yi (eOp 3) (Qc (Qd (.int 7))))))) (Qn (Qw 5 (Ja [none, none, some 2, some 0] (Zh (QQ Xp (Qa (eOp 4) Qj))) (Xl 1) K6 (QF (Xm K) (Qa (Qc (QF (XO K) (Qa (Qc (QF (Xo K) (Qa (eOp 3) (Qa (Qc (Qp Xk (Qc (Qd (.int 3))) (Qc (Qp Yi (eOp 1) (Qc (Qd (.int 6))))))) Qj)))) (Qa (Qc (Qp U3 (eOp 1) (Qc (Qd (.int 6))))) Qj)))) (Qa (eOp 2) Qj))))) (Qn (sIf (Xj eqI (Qc (Qp Yi (Qc (Qp U3 (eOp 3) (Qc (Qd (.int 7))))) (Qc (Qd (.int 3))))) (Qc (Qd (.int 1)))) (Qn (Qw 5 (Ja [none, none, some 2] (Zh (QQ Xp (Qa (Qc (Qp Yi (eOp 3) (Qc (Qd (.int 12))))) Qj))) (Xl 1) K6 (Qp QZ (Qc (YB (QI (QQ XH (Qa (Qc (QQ Xp (Qa (Qc (Qd (.int 0))) (Qa (Qc (Qp YO (eOp 2) (Qc (Qd (.int 1))))) (Qa (Qc (Qd (.int 2))) Qj))))) Qj)) (QI (QQ XH (Qa (Qc (QQ Xp (Qa (Qc (Qd (.int 1))) (Qa (Qc (Qp YO (eOp 2) (Qc (Qd (.int 1))))) (Qa (Qc (Qd (.int 2))) Qj))))) Qj)) Zp)))) (Qc (Qp Yi (eOp 1) (Qc (Qd (.int 2)))))))) QB) QB) (Qn (Qw 6 (Ja [none, none, some 2, some 0] (Zh (QQ Xp (Qa (Qc (Qp Xk (Qc (Qd (.int 1))) (Qc (Qp Yi (Qc (Qp U3 (eOp 3) (Qc (Qd (.int 21))))) (Qc (Qd (.int 4))))))) Qj))) (Xl 1) K6 (QF (Xm K) (Qa (Qc (QF (XO K) (Qa (Qc (QF (Xo K) (Qa (eOp 3) (Qa (Qc (Qd (.int 2))) Qj)))) (Qa (Qc (Qp Xk (Qc (Qd (.int 30))) (eOp 1))) Qj)))) (Qa (eOp 2) Qj))))) (Qn (XZ (UM (QI (XJ 2) (QI (XJ 5) (QI (XJ 6) (QI (Qp Xk (Qc (Qd (.int 1))) (Qc (Qp Yi (Qc (Qp U3 (eOp 3) (Qc (Qd (.int 84))))) (Qc (Qp QZ (Qc (YB (QI (Qd (.int 12)) (QI (Qd (.int 6)) (QI (Qd (.int 4)) (QI (Qd (.int 3)) Zp)))))) (Qc (Qp YO (Qc (QQ ZX (Qa (eOp 6) Qj))) (Qc (Qd (.int 1)))))))))) Zp)))))) QB))))))))
noncomputable def Z3 (K : W.Frag) : List D → FOut := ZL 7 [0] (Js K)
theorem OI (g : Gr (gd p w B mg mb true)) : Zt (gd p w B mg mb true) 3 (.ref 277) (Z3 (gd p w B mg mb true).K) :=
 fnI g 277 7 [0] (f := Js (gd p w B mg mb true).K) (Qb (asg 1 (cF g 244 (YY g) (aC (nB 0) (aC (Qg.of Qi) Qe)))) (Qb (asg 2 (Ql (Qg.of Qi) (Qg.of (sub (Qg.of (XG (vC Qi (vC Qi (vC (Ql (Qg.of (Ql (nB 1) (Qg.of Qi) U6)) (Qg.of Qi) Yc) (vC (Ql (Qg.of (Ql (nB 1) (Qg.of Qi) U6)) (Qg.of Qi) Yc) QO)))))) (Qg.of (Ql (nB 1) (Qg.of Qi) Yc)))) Xq)) (Qb (asg 3 (cF g 244 (YY g) (aC (nB 0) (aC (Qg.of Qi) Qe)))) (Qb (asg 4 (sub (Qg.of (XG (vC Qi (vC Qi (vC Qi (vC Qi (vC Qi (vC Qi (vC Qi QO))))))))) (Qg.of (Ql (nB 3) (Qg.of Qi) Yc)))) (Qb (E0 5 [none, none, some 2, some 0] (Zo (cB g (.type "range") XV (aC (nB 4) Qe))) (tgN 1) Uz (cF g 258 (UT g) (aC (Qg.of (cF g 251 (JM g) (aC (Qg.of (cF g 244 (YY g) (aC (nB 3) (aC (Qg.of (Ql (Qg.of Qi) (Qg.of (Ql (nB 1) (Qg.of Qi) Yc)) Xq)) Qe)))) (aC (Qg.of (Ql (nB 1) (Qg.of Qi) U6)) Qe)))) (aC (nB 2) Qe)))) (Qb (Q6 (Yw (Qg.of (Ql (Qg.of (Ql (nB 3) (Qg.of Qi) U6)) (Qg.of Qi) Yc)) (Qg.of Qi) Yq) (Qb (E0 5 [none, none, some 2] (Zo (cB g (.type "range") XV (aC (Qg.of (Ql (nB 3) (Qg.of Qi) Yc)) Qe))) (tgN 1) Uz (sub (Qg.of (XG (vC (cB g (.type "tuple") (Zv rfl) (aC (Qg.of (cB g (.type "range") XV (aC (Qg.of Qi) (aC (Qg.of (Ql (nB 2) (Qg.of Qi) Wd)) (aC (Qg.of Qi) Qe))))) Qe)) (vC (cB g (.type "tuple") (Zv rfl) (aC (Qg.of (cB g (.type "range") XV (aC (Qg.of Qi) (aC (Qg.of (Ql (nB 2) (Qg.of Qi) Wd)) (aC (Qg.of Qi) Qe))))) Qe)) QO)))) (Qg.of (Ql (nB 1) (Qg.of Qi) Yc)))) Qh) Qh) (Qb (E0 6 [none, none, some 2, some 0] (Zo (cB g (.type "range") XV (aC (Qg.of (Ql (Qg.of Qi) (Qg.of (Ql (Qg.of (Ql (nB 3) (Qg.of Qi) U6)) (Qg.of Qi) Yc)) Xq)) Qe))) (tgN 1) Uz (cF g 258 (UT g) (aC (Qg.of (cF g 251 (JM g) (aC (Qg.of (cF g 244 (YY g) (aC (nB 3) (aC (Qg.of Qi) Qe)))) (aC (Qg.of (Ql (Qg.of Qi) (nB 1) Xq)) Qe)))) (aC (nB 2) Qe)))) (Qb (Qr (XX (vC (nV 2) (vC (nV 5) (vC (nV 6) (vC (Ql (Qg.of Qi) (Qg.of (Ql (Qg.of (Ql (nB 3) (Qg.of Qi) U6)) (Qg.of (sub (Qg.of (XG (vC Qi (vC Qi (vC Qi (vC Qi QO)))))) (Qg.of (Ql (Qg.of (cB g (.builtin "len") XT (aC (nB 6) Qe))) (Qg.of Qi) Wd)))) Yc)) Xq) QO)))))) Qh)))))))) (OM fun _ => by kernel_rfl)
noncomputable def Wh (K : W.Frag) : AEnv → Res Fl := (Qn (Qw 2 (QQ Z0 (Qa (eOp 0) Qj))) (Qn (UX (Zh (XJ 1)) (Xl 3) (Qn (Qw 2 (Qp Xk (Qc (Qp Xk (Qc (Jc (eOp 2) YA (UR (eOp 3)))) (Qc (YB (QI (Qp QZ (eOp 2) (Qc (Qp Xk (eOp 3) (Qc (Qd (.int 1)))))) (QI (Qp QZ (eOp 2) (eOp 3)) Zp)))))) (Qc (Jc (eOp 2) (UR (Qc (Qp Xk (eOp 3) (Qc (Qd (.int 2)))))) YA)))) QB)) (Qn (XZ (QQ XH (Qa (eOp 2) Qj))) QB)))
noncomputable def XE (K : W.Frag) : List D → FOut := ZL 4 [0, 1] (Wh K)
theorem J4 (g : Gr (gd p w B mg mb true)) : Zt (gd p w B mg mb true) 1 (.ref 265) (XE (gd p w B mg mb true).K) :=
 fnI g 265 4 [0, 1] (f := Wh (gd p w B mg mb true).K) (Qb (asg 2 (cB g (.type "list") (Yy rfl) (aC (nB 0) Qe))) (Qb (OV (Zo (nV 1)) (tgN 3) (Qb (asg 2 (Ql (Qg.of (Ql (Qg.of (WM (nB 2) WJ (WL (nB 3)))) (Qg.of (XG (vC (sub (nB 2) (Qg.of (Ql (nB 3) (Qg.of Qi) Xq))) (vC (sub (nB 2) (nB 3)) QO)))) Xq)) (Qg.of (WM (nB 2) (WL (Qg.of (Ql (nB 3) (Qg.of Qi) Xq))) WJ)) Xq)) Qh)) (Qb (Qr (cB g (.type "tuple") (Zv rfl) (aC (nB 2) Qe))) Qh))) (Ks fun _ _ => by kernel_rfl)
noncomputable def U2 (K : W.Frag) : AEnv → Res Fl := (Qn (Qw 2 (YB (QI (XJ 0) Zp))) (Qn (UX (Zh (XJ 1)) (Xl 3) (Qn (ZN (Qc (ZT 2 (QF (XE K) (Qa (Qc (Qp QZ (eOp 2) (Qc (U9 JC (Qc (Qd (.int 1))))))) (Qa (eOp 3) Qj)))))) QB)) (Qn (Ym 2) QB)))
noncomputable def Yd (K : W.Frag) : List D → FOut := ZL 4 [0, 1] (U2 K)
theorem Kj (g : Gr (gd p w B mg mb true)) : Zt (gd p w B mg mb true) 2 (.ref 272) (Yd (gd p w B mg mb true).K) :=
 fnI g 272 4 [0, 1] (f := U2 (gd p w B mg mb true).K) (Qb (asg 2 (XG (vC (nV 0) QO))) (Qb (OV (Zo (nV 1)) (tgN 3) (Qb (exM (ES 2 (Wj.of (cF g 265 (J4 g) (aC (Qg.of (sub (nB 2) (Qg.of (Zw (Qg.of Qi) W5)))) (aC (nB 3) Qe)))))) Qh)) (Qb (EQ 2) Qh))) (Ks fun _ _ => by kernel_rfl)
noncomputable def J8 (K : W.Frag) : AEnv → Res Fl := (Qn (CN 1) (Qn (UX (Zh (QQ Xp (Qa (Qc (QQ ZX (Qa (eOp 0) Qj))) Qj))) (Xl 2) (Qn (sIf (C3 false (Qc (Qp QZ (eOp 0) (eOp 2))) 1) (Qn (XZ (UM (QI (Vd 1 (Qc (Qp QZ (eOp 0) (eOp 2)))) (QI (XJ 2) Zp)))) QB) QB) (Qn (K4 1 (Qc (Qp QZ (eOp 0) (eOp 2))) (XJ 2)) QB))) (Qn (XZ (Qd .none)) QB)))
noncomputable def X0 (K : W.Frag) : List D → FOut := ZL 3 [0] (J8 K)
theorem Wn (g : Gr (gd p w B mg mb true)) : Zt (gd p w B mg mb true) 1 (.ref 284) (X0 (gd p w B mg mb true).K) :=
 fnI g 284 3 [0] (f := J8 (gd p w B mg mb true).K) (Qb (O6 g.ok (i := 1)) (Qb (OV (Zo (cB g (.type "range") XV (aC (Qg.of (cB g (.builtin "len") XT (aC (nB 0) Qe))) Qe))) (tgN 2) (Qb (Q6 (BO (i := 1) (Qg.of (sub (nB 0) (nB 2)))) (Qb (Qr (XX (vC (Bj (i := 1) (Qg.of (sub (nB 0) (nB 2)))) (vC (nV 2) QO)))) Qh) Qh) (Qb (Vl (i := 1) (Qg.of (sub (nB 0) (nB 2))) (nV 2)) Qh))) (Qb (Qr Ud) Qh))) (OM fun _ => by kernel_rfl)
noncomputable def Yg (K : W.Frag) : AEnv → Res Fl := (Qn (sIf (eOr (Zj (Xi (Qc (QQ (QV K) (Qa (eOp 4) (Qa (Qc (Qd (.glob (.type "list")))) Qj)))))) (eOr (Xj neI (Qc (QQ ZX (Qa (eOp 4) Qj))) (eOp 3)) X7)) (Qn (XZ (Qd (.bool false))) QB) QB) (Qn (Qw 5 (QQ XH (Qa (Qc (QQ Xp (Qa (eOp 0) Qj))) Qj))) (Qn (Qw 6 (YB Zp)) (Qn (UX (Zh (XJ 4)) (Xl 7) (Qn (sIf (eOr (Zj (Xi (Qc (QQ (QV K) (Qa (eOp 7) (Qa (Qc (Qd (.glob (.type "int")))) Qj)))))) (eOr (Xi (Qc (QQ (QV K) (Qa (eOp 7) (Qa (Qc (Qd (.glob (.type "bool")))) Qj))))) (eOr (Zj (ZU leI ltI (Qc (Qd (.int 0))) (eOp 7) (Qc (QQ ZX (Qa (eOp 2) Qj))))) X7))) (Qn (XZ (Qd (.bool false))) QB) QB) (Qn (Qw 8 (QF (Yd K) (Qa (eOp 5) (Qa (eOp 1) Qj)))) (Qn (Qw 6 (Qp Xk (eOp 6) (eOp 8))) (Qn (Qw 5 (QF (XE K) (Qa (Qc (Qp QZ (eOp 8) (Qc (U9 JC (Qc (Qd (.int 1))))))) (Qa (Qc (Qp QZ (eOp 2) (eOp 7))) Qj)))) QB))))) (Qn (XZ (eBo .And (Qc (Qp isI (Qc (QF (X0 K) (Qa (eOp 6) Qj))) (Qc (Qd .none)))) (Qp eqI (eOp 5) (Qc (QQ XH (Qa (Qc (QQ Xp (Qa (eOp 0) Qj))) Qj)))))) QB)))))
noncomputable def ZD (K : W.Frag) : List D → FOut := ZL 9 [0, 1, 2, 3, 4] (Yg K)
theorem Wq (g : Gr (gd p w B mg mb true)) : Zt (gd p w B mg mb true) 3 (.ref 291) (ZD (gd p w B mg mb true).K) :=
 fnI g 291 9 [0, 1, 2, 3, 4] (f := Yg (gd p w B mg mb true).K) (Qb (Q6 (Q7 (QH (QY (ZE (Qg.of (cB g (.builtin "isinstance") (QT g.ok) (aC (nB 4) (aC (Qg.of (gB g (.type "list"))) Qe)))))) (QH (Yw (Qg.of (cB g (.builtin "len") XT (aC (nB 4) Qe))) (nB 3) Wl) Q2))) (Qb (Qr Z8) Qh) Qh) (Qb (asg 5 (cB g (.type "tuple") (Zv rfl) (aC (Qg.of (cB g (.type "range") XV (aC (nB 0) Qe))) Qe))) (Qb (asg 6 (XG QO)) (Qb (OV (Zo (nV 4)) (tgN 7) (Qb (Q6 (Q7 (QH (QY (ZE (Qg.of (cB g (.builtin "isinstance") (QT g.ok) (aC (nB 7) (aC (Qg.of (gB g (.type "int"))) Qe)))))) (QH (ZE (Qg.of (cB g (.builtin "isinstance") (QT g.ok) (aC (nB 7) (aC (Qg.of (gB g (.type "bool"))) Qe))))) (QH (QY (chT (Qg.of Qi) (nB 7) (Qg.of (cB g (.builtin "len") XT (aC (nB 2) Qe))) JW CO)) Q2)))) (Qb (Qr Z8) Qh) Qh) (Qb (asg 8 (cF g 272 (Kj g) (aC (nB 5) (aC (nB 1) Qe)))) (Qb (asg 6 (Ql (nB 6) (nB 8) Xq)) (Qb (asg 5 (cF g 265 (J4 g) (aC (Qg.of (sub (nB 8) (Qg.of (Zw (Qg.of Qi) W5)))) (aC (Qg.of (sub (nB 2) (nB 7))) Qe)))) Qh))))) (Qb (Qr (Jv (Jy (Qg.of (V8 (Qg.of (cF g 284 (Wn g) (aC (nB 6) Qe))) (Qg.of Ud) F1)) (UD (V8 (nB 5) (Qg.of (cB g (.type "tuple") (Zv rfl) (aC (Qg.of (cB g (.type "range") XV (aC (nB 0) Qe))) Qe))) Yq))))) Qh))))) (Fw fun _ _ _ _ _ => by kernel_rfl)
noncomputable def XQ (K : W.Frag) (R : List D → FOut) : AEnv → Res Fl := (Qn (sIf (Zj (Xi (Qc (QQ (QV K) (Qa (eOp 5) (Qa (Qc (Qd (.glob (.type "tuple")))) Qj)))))) (Qn (XZ (Qd (.bool false))) QB) QB) (Qn (sIf (Xj eqI (eOp 2) (Qc (Qd (.int 0)))) (Qn (XZ (eBo .And (Qc (Qp eqI (eOp 5) (Qc (UM (QI (Qd (.str "away")) Zp))))) (Qp neI (eOp 3) (Qc (QQ XH (Qa (Qc (QQ Xp (Qa (Qc (QQ ZX (Qa (eOp 3) Qj))) Qj))) Qj)))))) QB) QB) (Qn (Qw 6 (V4 (QF (Yd K) (Qa (eOp 3) (Qa (eOp 0) Qj))))) (Qn (Qw 7 (QF (X0 K) (Qa (Qc (Qp Xk (eOp 4) (eOp 6))) Qj))) (Qn (sIf (Xj J5 (eOp 7) (Qc (Qd .none))) (Qn (Qw 8 (Ja [none, none] (Zh (Jc (eOp 5) (UR (Qc (Qd (.int 1)))) YA)) (Xl 1) (D4 (Xi (Qc (QQ (QV K) (Qa (eOp 1) (Qa (Qc (Qd (.glob (.type "int")))) Qj))))) (D4 (Zj (Xi (Qc (QQ (QV K) (Qa (eOp 1) (Qa (Qc (Qd (.glob (.type "bool")))) Qj)))))) VP)) (XJ 1))) (Qn (XZ (eBo .And (Qc (Qp eqI (eOp 5) (Qc (UM (QI (Qd (.str "clash")) (QI (Qp QZ (eOp 7) (Qc (Qd (.int 0)))) (QI (Qp QZ (eOp 7) (Qc (Qd (.int 1)))) Zp))))))) (Qp eqI (Qc (QQ ZX (Qa (eOp 8) Qj))) (Qc (Qd (.int 2)))))) QB)) QB) (Qn (sIf (eOr (Xj neI (Qc (QQ ZX (Qa (eOp 5) Qj))) (Qc (Qd (.int 2)))) (eOr (Xj neI (Qc (Qp QZ (eOp 5) (Qc (Qd (.int 0))))) (Qc (Qd (.str "ask")))) (eOr (Zj (Xi (Qc (QQ (QV K) (Qa (Qc (Qp QZ (eOp 5) (Qc (Qd (.int 1))))) (Qa (Qc (Qd (.glob (.type "tuple")))) Qj)))))) (eOr (Xj neI (Qc (QQ ZX (Qa (Qc (Qp QZ (eOp 5) (Qc (Qd (.int 1))))) Qj))) (Qc (QQ ZX (Qa (eOp 1) Qj)))) X7)))) (Qn (XZ (Qd (.bool false))) QB) QB) (Qn (Br 9 10 (XJ 1) (Qp QZ (eOp 5) (Qc (Qd (.int 1)))) (Zj (Xi (Qc (QF R (Qa (eOp 0) (Qa (eOp 1) (Qa (Qc (Qp YO (eOp 2) (Qc (Qd (.int 1))))) (Qa (Qc (QF (XE K) (Qa (Qc (Qp QZ (eOp 6) (Qc (U9 JC (Qc (Qd (.int 1))))))) (Qa (eOp 9) Qj)))) (Qa (Qc (Qp Xk (eOp 4) (eOp 6))) (Qa (eOp 10) Qj))))))))))) (Qn (XZ (Qd (.bool true))) QB))))))))
noncomputable def Xs (K : W.Frag) : Nat → List D → FOut
 | 0 => fun _ => .stuck
 | d + 1 => ZL 11 [0, 1, 2, 3, 4, 5] (XQ K (Xs K d))
theorem WN (g : Gr (gd p w B mg mb true)) (d : Nat) : Zt (gd p w B mg mb true) (2 + d) (.ref 296) (Xs (gd p w B mg mb true).K d) := by
 induction d with
 | zero => exact CY
 | succ d ih => exact fnI g (k := 2 + d) 296 11 [0, 1, 2, 3, 4, 5] (f := XQ (gd p w B mg mb true).K (Xs (gd p w B mg mb true).K d)) (Qb (Q6 (QY (ZE (Qg.of (cB g (.builtin "isinstance") (QT g.ok) (aC (nB 5) (aC (Qg.of (gB g (.type "tuple"))) Qe)))))) (Qb (Qr Z8) Qh) Qh) (Qb (Q6 (Yw (nB 2) (Qg.of Qi) Yq) (Qb (Qr (Jv (Jy (Qg.of (V8 (nB 5) (Qg.of (XX (vC Zn QO))) Yq)) (UD (V8 (nB 3) (Qg.of (cB g (.type "tuple") (Zv rfl) (aC (Qg.of (cB g (.type "range") XV (aC (Qg.of (cB g (.builtin "len") XT (aC (nB 3) Qe))) Qe))) Qe))) Wl))))) Qh) Qh) (Qb (asg 6 (Dd (cF g 272 (Kj g) (aC (nB 3) (aC (nB 0) Qe)) (by omega)))) (Qb (asg 7 (cF g 284 (Wn g) (aC (Qg.of (Ql (nB 4) (nB 6) Xq)) Qe) (by omega))) (Qb (Q6 (Yw (nB 7) (Qg.of Ud) Ba) (Qb (E0 8 [none, none] (Zo (WM (nB 5) (WL (Qg.of Qi)) WJ)) (tgN 1) (Da (Q7 (O5 (ZE (Qg.of (cB g (.builtin "isinstance") (QT g.ok) (aC (nB 1) (aC (Qg.of (gB g (.type "int"))) Qe))))) (O5 (QY (ZE (Qg.of (cB g (.builtin "isinstance") (QT g.ok) (aC (nB 1) (aC (Qg.of (gB g (.type "bool"))) Qe)))))) OL)))) (nV 1)) (Qb (Qr (Jv (Jy (Qg.of (V8 (nB 5) (Qg.of (XX (vC Zn (vC (sub (nB 7) (Qg.of Qi)) (vC (sub (nB 7) (Qg.of Qi)) QO))))) Yq)) (UD (V8 (Qg.of (cB g (.builtin "len") XT (aC (nB 8) Qe))) (Qg.of Qi) Yq))))) Qh)) Qh) (Qb (Q6 (Q7 (QH (Yw (Qg.of (cB g (.builtin "len") XT (aC (nB 5) Qe))) (Qg.of Qi) Wl) (QH (Yw (Qg.of (sub (nB 5) (Qg.of Qi))) (Qg.of Zn) Wl) (QH (QY (ZE (Qg.of (cB g (.builtin "isinstance") (QT g.ok) (aC (Qg.of (sub (nB 5) (Qg.of Qi))) (aC (Qg.of (gB g (.type "tuple"))) Qe)))))) (QH (Yw (Qg.of (cB g (.builtin "len") XT (aC (Qg.of (sub (nB 5) (Qg.of Qi))) Qe))) (Qg.of (cB g (.builtin "len") XT (aC (nB 1) Qe))) Wl) Q2))))) (Qb (Qr Z8) Qh) Qh) (Qb (Gm g 9 10 (nV 1) (sub (nB 5) (Qg.of Qi)) (QY (ZE (Qg.of (cF g 296 ih (aC (nB 0) (aC (nB 1) (aC (Qg.of (Ql (nB 2) (Qg.of Qi) Wd)) (aC (Qg.of (cF g 265 (J4 g) (aC (Qg.of (sub (nB 6) (Qg.of (Zw (Qg.of Qi) W5)))) (aC (nB 9) Qe)) (by omega))) (aC (Qg.of (Ql (nB 4) (nB 6) Xq)) (aC (nB 10) Qe)))))) (by omega)))))) (Qb (Qr Z8) Qh)))))))) (Gl fun _ _ _ _ _ _ => by kernel_rfl)
noncomputable def Jd (K : W.Frag) : AEnv → Res Fl := (Qn (sIf (eOr (Zj (Xi (Qc (QQ (QV K) (Qa (eOp 1) (Qa (Qc (Qd (.glob (.type "tuple")))) Qj)))))) (eOr (Xj eqI (Qc (QQ ZX (Qa (eOp 1) Qj))) (Qc (Qd (.int 0)))) X7)) (Qn (fun _ => .stuck) QB) QB) (Qn (Qw 2 (U9 JC (Qc (Qd (.int 2))))) (Qn (UX (Zh (XJ 1)) (Xl 3) (Qn (sIf (eOr (Zj (Xi (Qc (QF (Xx K) (Qa (eOp 3) Qj))))) (eOr (Zj (ZU leI leI (Qc (Qp Xk (eOp 2) (Qc (Qd (.int 2))))) (eOp 3) (Qc (Qp YO (eOp 0) (Qc (Qd (.int 2))))))) X7)) (Qn (fun _ => .stuck) QB) QB) (Qn (Qw 2 (XJ 3)) QB))) QB)))
noncomputable def ZM (K : W.Frag) : List D → FOut := ZL 4 [0, 1] (Jd K)
theorem Of (g : Gr (gd p w B mg mb true)) : Zt (gd p w B mg mb true) 2 (.ref 160) (ZM (gd p w B mg mb true).K) :=
 fnI g 160 4 [0, 1] (f := Jd (gd p w B mg mb true).K) (Qb (Q6 (Q7 (QH (QY (ZE (Qg.of (cB g (.builtin "isinstance") (QT g.ok) (aC (nB 1) (aC (Qg.of (gB g (.type "tuple"))) Qe)))))) (QH (Yw (Qg.of (cB g (.builtin "len") XT (aC (nB 1) Qe))) (Qg.of Qi) Yq) Q2))) (Qb Zu Qh) Qh) (Qb (asg 2 (Zw (Qg.of Qi) W5)) (Qb (OV (Zo (nV 1)) (tgN 3) (Qb (Q6 (Q7 (QH (QY (ZE (Qg.of (cF g 113 (Yp g) (aC (nB 3) Qe))))) (QH (QY (chT (Qg.of (Ql (nB 2) (Qg.of Qi) Xq)) (nB 3) (Qg.of (Ql (nB 0) (Qg.of Qi) Wd)) JW JW)) Q2))) (Qb Zu Qh) Qh) (Qb (asg 2 (nV 3)) Qh))) Qh))) (Ks fun _ _ => by kernel_rfl)
noncomputable def Y9 (K : W.Frag) : AEnv → Res Fl := (Qn (ZN (Qc (QF (Z1 K) (Qa (eOp 1) Qj)))) (Qn (sIf (eOr (Zj (Xi (Qc (QQ (QV K) (Qa (eOp 2) (Qa (Qc (Qd (.glob (.type "list")))) Qj)))))) (eOr (Xj gtI (Qc (QQ ZX (Qa (eOp 2) Qj))) (Qc (Qd (.int 30)))) X7)) (Qn (fun _ => .stuck) QB) QB) (Qn (sIf (eOr (Zj (Xi (Qc (QQ (QV K) (Qa (eOp 3) (Qa (Qc (Qd (.glob (.type "list")))) Qj)))))) (eOr (Zj (ZU leI leI (Qc (Qd (.int 1))) (Qc (QQ ZX (Qa (eOp 3) Qj))) (Qc (Qd (.int 4))))) X7)) (Qn (fun _ => .stuck) QB) QB) (Qn (UX (Zh (Qp Xk (eOp 2) (eOp 3))) (Xl 4) (Qn (ZN (Qc (QF (ZM K) (Qa (eOp 1) (Qa (eOp 4) Qj))))) QB)) QB))))
noncomputable def Jh (K : W.Frag) : List (Str × (AEnv → Res T)) := [("bells", (XJ 1)), ("steps", (QQ Z0 (Qa (eOp 2) Qj))), ("ways", (QQ Z0 (Qa (eOp 3) Qj)))]
noncomputable def Jo (K : W.Frag) : Addr → List D → IOut := BE 5 [0, 1, 2, 3] 0 (Y9 K) (Jh K)
theorem KP (g : Gr (gd p w B mg mb true)) : WR (gd p w B mg mb true) 3 (.ref 181) 233 ["bells", "steps", "ways"] (Jo (gd p w B mg mb true).K) :=
 Gu g 181 5 [0, 1, 2, 3] 0 233 "self" (f := Y9 (gd p w B mg mb true).K) (ts := Jh (gd p w B mg mb true).K) (.cons (WV (Qg.of (cF g 120 (UU g) (aC (nB 1) Qe))) (fun _ => rfl)) (.cons (Q6 (Q7 (QH (QY (ZE (Qg.of (cB g (.builtin "isinstance") (QT g.ok) (aC (nB 2) (aC (Qg.of (gB g (.type "list"))) Qe)))))) (QH (Yw (Qg.of (cB g (.builtin "len") XT (aC (nB 2) Qe))) (Qg.of (gI g 30 408)) Fm) Q2))) (Qb Zu Qh) Qh) (.cons (Q6 (Q7 (QH (QY (ZE (Qg.of (cB g (.builtin "isinstance") (QT g.ok) (aC (nB 3) (aC (Qg.of (gB g (.type "list"))) Qe)))))) (QH (QY (chT (Qg.of Qi) (Qg.of (cB g (.builtin "len") XT (aC (nB 3) Qe))) (Qg.of (gI g 4 410)) JW JW)) Q2))) (Qb Zu Qh) Qh) (.cons (OV (Zo (Ql (nB 2) (nB 3) Xq)) (tgN 4) (Qb (WV (Qg.of (cF g 160 (Of g) (aC (nB 1) (aC (nB 4) Qe)))) (fun _ => rfl)) Qh)) .nil)))) (tC (nV 1) (tC (cB g (.type "list") (Yy rfl) (aC (nB 2) Qe)) (tC (cB g (.type "list") (Yy rfl) (aC (nB 3) Qe)) .nil))) (FP fun _ _ _ _ => by kernel_rfl)
noncomputable def EE (K : W.Frag) : AEnv → Res Fl := (Qn (Os [1, 2, 3, 4] (QF (Z3 K) (Qa (eOp 0) Qj))) (Qn (Qw 5 (Vg 233 ["bells", "steps", "ways"] (Jo K) (Qa (eOp 1) (Qa (Qc (QQ Z0 (Qa (eOp 2) Qj))) (Qa (Qc (QQ Z0 (Qa (eOp 3) Qj))) Qj))))) (Vy 6 7 (Zx K) (Qa (eOp 5) (Qa (eOp 4) Qj)) (eOr (Zj (Xi (Qc (QQ (QV K) (Qa (eOp 6) (Qa (Qc (Qd (.glob (.type "tuple")))) Qj)))))) (eOr (Xj neI (Qc (QQ ZX (Qa (eOp 6) Qj))) (Qc (Qd (.int 2)))) X7)) (Xj eqI (Qc (Qp QZ (eOp 6) (Qc (Qd (.int 0))))) (Qc (Qd (.str "touch")))) (Zj (Xi (Qc (QF (ZD K) (Qa (eOp 1) (Qa (eOp 2) (Qa (eOp 3) (Qa (eOp 4) (Qa (Qc (Qp QZ (eOp 6) (Qc (Qd (.int 1))))) Qj))))))))) (QQ Z0 (Qa (Qc (Qp QZ (eOp 6) (Qc (Qd (.int 1))))) Qj)) (XZ (Qp eqI (Qc (QF (Zx K) (Qa (eOp 5) (Qa (eOp 4) Qj)))) (Qc (UM (QI (Qd (.str "touch")) (QI (XJ 7) Zp)))))) (Qn (Qw 6 (QF (Zx K) (Qa (eOp 5) (Qa (eOp 4) Qj)))) (Qn (sIf (eOr (Zj (Xi (Qc (QQ (QV K) (Qa (eOp 6) (Qa (Qc (Qd (.glob (.type "tuple")))) Qj)))))) (eOr (Xj neI (Qc (QQ ZX (Qa (eOp 6) Qj))) (Qc (Qd (.int 2)))) X7)) (Qn (XZ (Qd (.bool false))) QB) QB) (Qn (sIf (Xj eqI (Qc (Qp QZ (eOp 6) (Qc (Qd (.int 0))))) (Qc (Qd (.str "touch")))) (fun _ => .stuck) QB) (Qn (sIf (eOr (Xj neI (Qc (Qp QZ (eOp 6) (Qc (Qd (.int 0))))) (Qc (Qd (.str "none")))) (eOr (Zj (Xi (Qc (QF (Xs K 14) (Qa (eOp 2) (Qa (eOp 3) (Qa (eOp 4) (Qa (Qc (QQ XH (Qa (Qc (QQ Xp (Qa (eOp 1) Qj))) Qj))) (Qa (Qc (YB Zp)) (Qa (Qc (Qp QZ (eOp 6) (Qc (Qd (.int 1))))) Qj)))))))))) X7)) (Qn (XZ (Qd (.bool false))) QB) QB) (Qn (XZ (Qp eqI (Qc (QF (Zx K) (Qa (eOp 5) (Qa (eOp 4) Qj)))) (eOp 6))) QB))))))))
noncomputable def BB (K : W.Frag) : List D → FOut := ZL 8 [0] (EE K)
theorem Fz (g : Gr (gd p w B mg mb true)) : Zt (gd p w B mg mb true) 21 (.ref 303) (BB (gd p w B mg mb true).K) :=
 fnI g 303 8 [0] (f := EE (gd p w B mg mb true).K) (Qb (Gp (nmC 1 (nmC 2 (nmC 3 (nmC 4 nmN)))) (cF g 277 (OI g) (aC (nB 0) Qe))) (Qb (asg 5 (mak g 233 181 (KP g) (aC (nB 1) (aC (Qg.of (cB g (.type "list") (Yy rfl) (aC (nB 2) Qe))) (aC (Qg.of (cB g (.type "list") (Yy rfl) (aC (nB 3) Qe))) Qe))))) (touch g 153 6 7 (Y3 g) (aC (nB 5) (aC (nB 4) Qe)) (Q7 (QH (QY (ZE (Qg.of (cB g (.builtin "isinstance") (QT g.ok) (aC (nB 6) (aC (Qg.of (gB g (.type "tuple"))) Qe)))))) (QH (Yw (Qg.of (cB g (.builtin "len") XT (aC (nB 6) Qe))) (Qg.of Qi) Wl) Q2))) (Yw (Qg.of (sub (nB 6) (Qg.of Qi))) (Qg.of Zn) Yq) (QY (ZE (Qg.of (cF g 291 (Wq g) (aC (nB 1) (aC (nB 2) (aC (nB 3) (aC (nB 4) (aC (Qg.of (sub (nB 6) (Qg.of Qi))) Qe))))))))) (cB g (.type "list") (Yy rfl) (aC (Qg.of (sub (nB 6) (Qg.of Qi))) Qe)) (Qr (V8 (Qg.of (cF g 153 (Y3 g) (aC (nB 5) (aC (nB 4) Qe)))) (Qg.of (XX (vC Zn (vC (nV 7) QO)))) Yq)) (Qb (asg 6 (cF g 153 (Y3 g) (aC (nB 5) (aC (nB 4) Qe)))) (Qb (Q6 (Q7 (QH (QY (ZE (Qg.of (cB g (.builtin "isinstance") (QT g.ok) (aC (nB 6) (aC (Qg.of (gB g (.type "tuple"))) Qe)))))) (QH (Yw (Qg.of (cB g (.builtin "len") XT (aC (nB 6) Qe))) (Qg.of Qi) Wl) Q2))) (Qb (Qr Z8) Qh) Qh) (Qb (Q6 (Yw (Qg.of (sub (nB 6) (Qg.of Qi))) (Qg.of Zn) Yq) Bk Qh) (Qb (Q6 (Q7 (QH (Yw (Qg.of (sub (nB 6) (Qg.of Qi))) (Qg.of Zn) Wl) (QH (QY (ZE (Qg.of (cF g 296 (WN g 14) (aC (nB 2) (aC (nB 3) (aC (nB 4) (aC (Qg.of (cB g (.type "tuple") (Zv rfl) (aC (Qg.of (cB g (.type "range") XV (aC (nB 1) Qe))) Qe))) (aC (Qg.of (XG QO)) (aC (Qg.of (sub (nB 6) (Qg.of Qi))) Qe)))))))))) Q2))) (Qb (Qr Z8) Qh) Qh) (Qb (Qr (V8 (Qg.of (cF g 153 (Y3 g) (aC (nB 5) (aC (nB 4) Qe)))) (nB 6) Yq)) Qh)))))))) (OM fun _ => by kernel_rfl)
end Mine
end

section
set_option Elab.async false
set_option maxRecDepth 100000
namespace Mine
open PySem PySem.W PyProof.Rows
theorem law11_enter (hlaw : ∀ (P : Params) (ns : List Int), ns.length ≤ 63 → BB (hd.heap_1 P) [.list (ns.map .int)] = .ok (.sh (.bool true))) : PySem.Challenge.rw_uf010040_11.Holds := by
 refine hd ?_
 intro w s₀ s₁ mg mb G Y a o pm cd doc dV kV ho hd' hcd hD hmg hg args vals as hpre hlay hrd hwl hlo
 have KX : (hd.heap_1 w.params).In s₁.heap := kIn_of Y
 have T := G.T
 have g : Gr (gd PySem.Challenge.rw_uf010040_11.row.toRowW.prog w s₁.heap mg mb true) := ⟨⟨T.g, T.b, T.nolimit, KX⟩, ⟨_, _, topRead_of T⟩, T.builtins⟩
 have e : mg "law" = some (.ref 303) := mg_of KX T.g (by kernel_rfl)
 have ea : a = 303 := by
  have h : mg "law" = some (.ref a) := hmg
  rw [e] at h
  cases h; rfl
 subst ea
 exact E4 (l := PySem.Challenge.rw_uf010040_11) (Fz g) (by decide) hg (n := 63) rfl rfl hpre hrd hwl (hlaw w.params)
end Mine
end

section
set_option Elab.async false
set_option maxRecDepth 100000
set_option maxHeartbeats 4000000
set_option linter.unusedSimpArgs false
set_option linter.unusedVariables false
namespace Mine
open PySem PySem.W
theorem ZO (K : Frag) (d : D) (h : E8 d = true) : Xx K [d] = .ok (.sh (.bool (isW d))) := by
 cases d with
 | range _ _ _ => cases h
 | exc _ => cases h
 | glob _ => cases h
 | dict _ _ => cases h
 | obj _ _ _ => cases h
 | none => kernel_rfl
 | bool b => kernel_rfl
 | int i => kernel_rfl
 | str x => kernel_rfl
 | tup ds => kernel_rfl
 | list ds => kernel_rfl
theorem Zs (K : Frag) (d : D) (h : E8 d = true) : QV K [d, .glob (.type "tuple")] = some (.sh (.bool (match d with | .tup _ => true | _ => false))) := by
 cases d with
 | range _ _ _ => cases h
 | exc _ => cases h
 | glob _ => cases h
 | dict _ _ => cases h
 | obj _ _ _ => cases h
 | none => kernel_rfl
 | bool b => kernel_rfl
 | int i => kernel_rfl
 | str x => kernel_rfl
 | tup ds => kernel_rfl
 | list ds => kernel_rfl
theorem JP (K : Frag) (n : Int) (h3 : 3 ≤ n) (h12 : n ≤ 12) : Z1 K [.int n] = .ok (.sh .none) := by
 have e : Xx K [.int n] = .ok (.sh (.bool true)) := ZO K (.int n) rfl
 have e1 := JQ h3
 have e2 := JQ h12
 unfold Z1 JL
 refine' Xc [some (.sh (.int n))] rfl rfl ?_ Wp
 repeat' (first|(with_reducible first|assumption|exact Xa|exact QM|exact QJ|exact QS|apply QL|exact QD|apply Qt|exact Qo|exact Qs|exact Q5|exact Qx|apply QK|apply QA|apply Qm|apply QC|apply Q1|apply Xz|apply Zb|apply ZK|apply Qz|apply Xe|apply ValK.ok|apply CallK.ok|apply ConsBL.ok|apply ConsBK.ok|apply TruthK.ok|apply ChainN.ok|apply ChainL.ok|apply ChainK.ok|exact NotK.t|apply OrK.f|apply ChainM.t|apply SeqK.next|apply IfK.f)|exact Q9 rfl|exact (rfl : Qk _ = true)|exact (rfl : (_ : Option _) = some _)|decide)
theorem B7 (K : Frag) (ds : List D) (hl : ds.length ≤ 1000000) (h : ∀ d ∈ ds, E8 d = true) : Yr (Xl 1) K6 (QF (Xx K) (Qa (eOp 1) Qj)) [none, none] ds [] = some (ds.map fun d => .bool (isW d)) := by
 refine Uv ds (fun d hd => ?_) hl
 have e := ZO K d (h d hd)
 refine ⟨[none, some (.sh d)], .sh (.bool (isW d)), [none, some (.sh d)], rfl, ?_, rfl⟩
 repeat' (first|(with_reducible first|assumption|exact QM|exact QJ|apply QR|apply QL|exact QD|apply Qt|exact Qs|apply QK|apply Qm|apply QC|apply CallK.ok|apply ConsBL.ok|apply ConsBK.ok)|exact Q9 rfl|exact (rfl : Qk _ = true)|exact (rfl : (_ : Option _) = some _)|decide)
theorem Vv (g : D → Bool) (ds : List D) : UB (ds.map fun d => .bool (g d)) = some (ds.map g) := by
 have := By (ds.map g)
 rwa [List.map_map] at this
theorem E6 (ns : List Int) : ∀ d ∈ iL ns, E8 d = true := fun d hd => by
 obtain ⟨i, _, rfl⟩ := List.mem_map.mp hd; rfl
theorem Fs (ns : List Int) : (iL ns).all isW = true := List.all_eq_true.mpr fun d hd => by
 obtain ⟨i, _, rfl⟩ := List.mem_map.mp hd; rfl
theorem Xf (ns : List Int) : (iL ns).length = ns.length := by simp [iL]
theorem OU (K : Frag) (ns : List Int) (h3 : 3 ≤ ns.length) (h12 : ns.length ≤ 12) : J0 K [.tup (iL ns)] = .ok (.sh (.bool (eqB (Ul ns) (rng ns.length)))) := by
 have e' : QV K [.tup (iL ns), .glob (.type "tuple")] = some (.sh (.bool true)) := Zs K (.tup (iL ns)) rfl
 have hl : (iL ns).length ≤ 1000000 := by rw [Xf]; omega
 have cw := B7 K (iL ns) hl (E6 ns)
 have e2 := Ur hl
 rw [Xf] at e2
 have e3 := JQ (show (3 : Int) ≤ ns.length by omega)
 have e4 := JQ (show (ns.length : Int) ≤ 12 by omega)
 have hw' : ((iL ns).map isW).all id = true := by rw [List.all_map]; exact Fs ns
 have e5 : E3 [.list ((iL ns).map fun d => .bool (isW d))] = some (.sh (.bool true)) := by rw [EH (Vv _ _), ← hw']
 have e6 : KL [.tup (iL ns)] = some (.ow true (.list (iL (Ul ns)))) := Dg (C4 ns) (by omega)
 have e7 : Z0 [.range 0 ns.length 1] = some (.ow true (.list (iL (rng ns.length)))) := by rw [EV (JK _ (by omega)), Wf]
 have e8 := BN (Ul ns) (rng ns.length)
 unfold J0 Oh
 refine' Xc [some (.sh (.tup (iL ns)))] rfl rfl ?_ Q3
 repeat' (first|(with_reducible first|assumption|exact Xa|exact Zi|exact QM|exact QJ|exact QS|apply QL|exact QD|apply Qt|exact WI|apply Ut|exact Qo|exact Qs|exact Q5|exact Qx|apply QK|apply QA|apply Q4|apply Qm|apply QG|apply Q1|apply Xz|apply Zb|apply ZK|apply Xh|apply Jl|apply Qz|apply Xe|apply QX|apply ValK.ok|apply Op2K.ok|apply Op2L.ok|apply OpNK.ok|apply ConsBL.ok|apply ConsBK.ok|apply TruthK.ok|apply ChainN.ok|apply ChainL.ok|apply ChainK.ok|apply ItemsK.ok|apply RetK.ok|exact NotK.t|apply OrK.f|apply ChainM.t|apply SeqK.next|exact SeqK.ret|apply IfK.f)|exact (rfl : Qk _ = true)|exact QP rfl|exact (rfl : (_ : Option _) = some _)|decide)
structure Row (n : Nat) (ns : List Int) : Prop where
 perm : ns.Perm (rng n)
 h3 : 3 ≤ n
 h12 : n ≤ 12
theorem Row.len {n : Nat} {ns : List Int} (r : Row n ns) : ns.length = n := by rw [r.perm.length_eq, JG]
theorem V0 (K : Frag) {n : Nat} {ns : List Int} (r : Row n ns) : J0 K [.tup (iL ns)] = .ok (.sh (.bool true)) := by
 rw [OU K ns (by rw [r.len]; exact r.h3) (by rw [r.len]; exact r.h12), r.len, OG.mpr (Dl.mpr r.perm)]
theorem Uu (n : Nat) (h : n ≤ 1000000) : XH [.range 0 n 1] = some (.sh (.tup (iL (rng n)))) := by rw [DI (JK _ h), Wf]
theorem WW (n : Nat) (h : n ≤ 1000000) : Zr (.range 0 n 1) = some (iL (rng n)) := by rw [BM (JK _ h), Wf]
theorem Kh (K : Frag) (n : Nat) (h3 : 3 ≤ n) (h12 : n ≤ 12) : Uj K [.int n] = .ok (.sh (.tup (iL (rng n)))) := by
 have h := JP K n (by omega) (by omega)
 have e := Uu n (by omega)
 unfold Uj KS
 refine' Xc [some (.sh (.int n))] rfl rfl ?_ Q3
 repeat' (first|(with_reducible first|assumption|exact Xa|exact QM|exact QJ|exact QS|apply QL|exact QD|apply Qt|exact Qs|apply QK|apply QA|apply Q4|apply Qm|apply QC|apply Qz|apply QX|apply XU|apply ValK.ok|apply OpNK.ok|apply CallK.ok|apply ConsBL.ok|apply ConsBK.ok|apply RetK.ok|apply ExprK.ok|apply SeqK.next|exact SeqK.ret)|exact Q9 rfl|exact (rfl : Qk _ = true)|exact (rfl : (_ : Option _) = some _)|decide)
theorem V9 {n : Nat} {i : Int} : i ∈ rng n ↔ 0 ≤ i ∧ i < n := by
 unfold rng
 rw [List.mem_map]
 constructor
 ·rintro ⟨k, hk, rfl⟩
  have := List.mem_range.mp hk
  omega
 ·rintro ⟨h0, h1⟩
  exact ⟨i.toNat, List.mem_range.mpr (by omega), by omega⟩
theorem Od {a : List Int} {j : Nat} (h : j < a.length) : (iL a)[j]? = some (.int (a.getD j 0)) := by
 unfold iL
 rw [List.getElem?_map, List.getElem?_eq_getElem h, List.getD_eq_getElem?_getD, List.getElem?_eq_getElem h]; rfl
theorem YM {ds : List D} (h : ds.length ≤ 1000000) : XH [.list ds] = some (.sh (.tup ds)) := Eb h
theorem Eo (f : List Int) (j : Nat) (v : Int) : (iL f).set j (.int v) = iL (f.set j v) := by unfold iL; rw [List.map_set]
theorem Yl (K : Frag) (ns : List Int) (k : Nat) (hl : ns.length ≤ 63) : Xo K [.list (iL ns), .int k] = .ok (.sh (.int (ns.getD k 0))) := by
 have e1 := XN (ds := iL ns) (by rw [Xf]; omega)
 rw [Xf] at e1
 unfold Xo U5
 refine' Xc [some (.sh (.list (iL ns))), some (.sh (.int k))] rfl rfl ?_ Q3
 by_cases h : k < ns.length
 ·have e2 := CT (a := (k : Int)) (b := ns.length) (by omega)
  have e3 : QZ (.list (iL ns)) (.int k) = some (.sh (.int (ns.getD k 0))) := Xw (by omega) (by omega) (by rw [Int.toNat_natCast]; exact Od h)
  repeat' (first|(with_reducible first|assumption|exact Xa|exact QM|exact QJ|apply QR|exact QS|apply QL|exact QD|apply Qt|exact Qo|exact Qs|exact Qx|apply QK|apply QA|apply Q4|apply Qm|apply QG|apply QE|apply Qz|apply Xe|apply QX|apply ValK.ok|apply Op2K.ok|apply Op2L.ok|apply OpNK.ok|apply ConsBL.ok|apply ConsBK.ok|apply Test2L.ok|apply Test2K.ok|apply RetK.ok|apply SeqK.next|exact SeqK.ret|apply IfK.t|apply IfK.f)|exact (rfl : Qk _ = true)|exact (rfl : (_ : Option _) = some _)|decide)
 ·have e2 := Fn (a := (k : Int)) (b := ns.length) (by omega)
  rw [show ns.getD k 0 = 0 by rw [List.getD_eq_getElem?_getD, List.getElem?_eq_none (by omega)]; rfl]
  repeat' (first|(with_reducible first|assumption|exact Xa|exact QM|exact QJ|apply QR|exact QS|apply QL|exact QD|apply Qt|exact Qo|exact Qs|exact Qx|apply QK|apply QA|apply Q4|apply Qm|apply QG|apply QE|apply Qz|apply Xe|apply QX|apply ValK.ok|apply Op2K.ok|apply Op2L.ok|apply OpNK.ok|apply ConsBL.ok|apply ConsBK.ok|apply Test2L.ok|apply Test2K.ok|apply RetK.ok|apply SeqK.next|exact SeqK.ret|apply IfK.t|apply IfK.f)|exact (rfl : Qk _ = true)|exact (rfl : (_ : Option _) = some _)|decide)
noncomputable def mix (c k : Int) : Int := (c * 48271 + 7919 * k * k + 104729 * k + 12345).fmod 2147483647
theorem BH (a : Int) {b : Int} (h : 0 < b) : 0 ≤ a.fmod b := by rw [Int.fmod_eq_emod_of_nonneg _ (by omega)]; exact Int.emod_nonneg _ (by omega)
theorem EP (a : Int) {b : Int} (h : 0 < b) : a.fmod b < b := by rw [Int.fmod_eq_emod_of_nonneg _ (by omega)]; exact Int.emod_lt_of_pos _ h
theorem Yz (K : Frag) (c k : Int) (hk : small k = true) : XO K [.int c, .int k] = .ok (.sh (.int (mix c k))) := by
 have e1 : OR (.int (7919 * k)) (.int k) = some (.sh (.int (7919 * k * k))) := WC (by rw [hk, Bool.or_true])
 have e2 : OR (.int 7919) (.int k) = some (.sh (.int (7919 * k))) := WC (by rw [hk, Bool.or_true])
 have e3 : OR (.int 104729) (.int k) = some (.sh (.int (104729 * k))) := WC (by rw [hk, Bool.or_true])
 have e4 : OR (.int c) (.int 48271) = some (.sh (.int (c * 48271))) := WC (by rw [Up (b := 48271) (by decide), Bool.or_true])
 unfold XO W4
 refine' Xc [some (.sh (.int c)), some (.sh (.int k))] rfl rfl ?_ Q3
 unfold mix
 repeat' (first|(with_reducible first|assumption|exact Xa|exact QM|exact QJ|apply QR|exact QS|apply QL|exact Qo|apply QK|apply QA|apply QG|apply Qz|apply QX|apply Zm|apply WC|apply ValK.ok|apply Op2K.ok|apply Op2L.ok|apply RetK.ok|exact SeqK.ret)|exact (rfl : Qk _ = true)|exact (rfl : (_ : Option _) = some _)|decide)
theorem Bl (a : Int) {n : Nat} (h : 0 < n) : ∃ p : Nat, a.fmod n = p ∧ p < n := by
 have h0 := BH a (b := n) (by omega)
 have h1 := EP a (b := n) (by omega)
 exact ⟨(a.fmod n).toNat, by omega, by omega⟩
noncomputable def Yu (n : Nat) : Nat → List Nat → Bool
 | _, [] => true
 | lo, p :: r => decide (lo ≤ p) && decide (p + 2 ≤ n) && Yu n (p + 2) r
structure Change (n : Nat) (cs : List Nat) : Prop where
 ne : cs ≠ []
 ok : Yu n 0 cs = true
noncomputable def nD (cs : List Nat) : List D := cs.map fun (p : Nat) => D.int p
theorem F9 (cs : List Nat) : nD cs = iL (cs.map fun (p : Nat) => (p : Int)) := by unfold nD iL; rw [List.map_map]; rfl
theorem KQ {n : Nat} : ∀ {cs : List Nat} {lo : Nat}, Yu n lo cs = true → lo ≤ n → cs.length ≤ n - lo
 | [], _, _, _ => Nat.zero_le _
 | p :: r, lo, h, hl => by
  rw [Yu] at h
  simp only [Bool.and_eq_true, decide_eq_true_eq] at h
  have := KQ h.2 (by omega)
  simp only [List.length_cons]; omega
theorem DQ (cs : List Nat) : (nD cs).length = cs.length := by simp [nD]
noncomputable def swap (f : List Int) (p : Nat) : List Int := (f.set p (f.getD (p + 1) 0)).set (p + 1) (f.getD p 0)
noncomputable def rung (a : List Int) (cs : List Nat) : List Int := cs.foldl swap a
theorem Wk (f : List Int) (p : Nat) : (swap f p).length = f.length := by simp [swap]
theorem Wz (a : List Int) (cs : List Nat) : (rung a cs).length = a.length := by
 unfold rung
 induction cs generalizing a with
 | nil => rfl
 | cons p r ih => rw [List.foldl_cons, ih, Wk]
theorem Ej {f : List Int} {p : Nat} (h : p + 1 < f.length) (i : Nat) : (swap f p)[i]? = if i = p then f[p + 1]? else if i = p + 1 then f[p]? else f[i]? := by
 unfold swap
 by_cases h1 : i = p
 ·subst h1
  rw [if_pos rfl, List.getElem?_set_ne (by omega), List.getElem?_set_self (by omega), List.getD_eq_getElem?_getD, List.getElem?_eq_getElem h]; rfl
 ·rw [if_neg h1]
  by_cases h2 : i = p + 1
  ·subst h2
   rw [if_pos rfl, List.getElem?_set_self (by rw [List.length_set]; omega), List.getD_eq_getElem?_getD, List.getElem?_eq_getElem (by omega : p < f.length)]; rfl
  ·rw [if_neg h2, List.getElem?_set_ne (by omega), List.getElem?_set_ne (by omega)]
theorem Dw {f : List Int} {p : Nat} (h : p + 1 < f.length) : (swap f p).Perm f := by
 induction p generalizing f with
 | zero =>
  match f, h with
  | x :: y :: l, _ => exact List.Perm.swap _ _ _
 | succ p ih =>
  match f, h with
  | x :: l, h =>
   have : swap (x :: l) (p + 1) = x :: swap l p := by unfold swap; simp
   rw [this]
   exact (ih (by simpa using h)).cons x
theorem Vk {n : Nat} : ∀ {cs : List Nat} {lo : Nat} {f : List Int}, f.length = n → Yu n lo cs = true → (rung f cs).Perm f
 | [], _, _, _, _ => .refl _
 | q :: r, lo, f, hf, h => by
  rw [Yu] at h
  simp only [Bool.and_eq_true, decide_eq_true_eq] at h
  exact (Vk (f := swap f q) (by rw [Wk]; exact hf) h.2).trans (Dw (by omega))
theorem Row.rung {n : Nat} {a : List Int} {cs : List Nat} (r : Row n a) (h : Yu n 0 cs = true) : Row n (rung a cs) := ⟨(Vk r.len h).trans r.perm, r.h3, r.h12⟩
theorem VG (K : Frag) {n : Nat} {a : List Int} {dch : D} (ha : a.length = n) (hn : n ≤ 12) {cs : List Nat} (h : Yu n 0 cs = true) : ∃ v, ZH (Xl 3) (Qn (ZJ 2 (eOp 3) (Qp QZ (eOp 0) (Qc (Qp Xk (eOp 3) (Qc (Qd (.int 1))))))) (Qn (ZJ 2 (Qc (Qp Xk (eOp 3) (Qc (Qd (.int 1))))) (Qp QZ (eOp 0) (eOp 3))) QB)) (nD cs) [some (.sh (.tup (iL a))), some (.sh dch), some (.ow true (.list (iL a))), none] = .ok .next [some (.sh (.tup (iL a))), some (.sh dch), some (.ow true (.list (iL (rung a cs)))), v] := by
 obtain ⟨ρ', h1, f, cs', v, lo, rfl, hd, hf, hr, hc, hg⟩ := VS (b := Xl 3) (sf := (Qn (ZJ 2 (eOp 3) (Qp QZ (eOp 0) (Qc (Qp Xk (eOp 3) (Qc (Qd (.int 1))))))) (Qn (ZJ 2 (Qc (Qp Xk (eOp 3) (Qc (Qd (.int 1))))) (Qp QZ (eOp 0) (eOp 3))) QB))) (fun ρ ds => ∃ (f : List Int) (cs' : List Nat) (v : Option T) (lo : Nat), ρ = [some (.sh (.tup (iL a))), some (.sh dch), some (.ow true (.list (iL f))), v] ∧ ds = nD cs' ∧ f.length = n ∧ rung f cs' = rung a cs ∧ Yu n lo cs' = true ∧ ∀ i, lo ≤ i → f[i]? = a[i]?) (by
  rintro ρ d ds ⟨f, cs', v, lo, rfl, hd, hf, hr, hc, hg⟩
  cases cs' with
  | nil => cases hd
  | cons p r =>
   cases hd
   rw [Yu] at hc
   simp only [Bool.and_eq_true, decide_eq_true_eq] at hc
   have hp1 : p + 1 < f.length := by rw [hf]; exact hc.1.2
   have hp1a : p + 1 < a.length := by rw [ha]; exact hc.1.2
   have hp0 : p < f.length := Nat.lt_of_succ_lt hp1
   have hb : p + 1 ≤ 1000 := Nat.le_trans (Nat.le_of_succ_le hc.1.2) (DV hn)
   have hlf : (iL f).length ≤ 1000000 := by rw [Xf, hf]; exact CP hn
   have e1 : QZ (.tup (iL a)) (.int ((p : Int) + 1)) = some (.sh (.int (a.getD (p + 1) 0))) := Bz (p := p + 1) hb (Od hp1a)
   have e2 : QZ (.tup (iL a)) (.int p) = some (.sh (.int (a.getD p 0))) := Bz (Nat.le_of_succ_le hb) (Od (Nat.lt_of_succ_lt hp1a))
   have e3 : (0 : Int) ≤ p ∧ (p : Int) < ((iL f).length : Int) := ⟨Int.natCast_nonneg p, by rw [Xf]; exact Int.ofNat_lt.mpr hp0⟩
   have e4 : (0 : Int) ≤ (p : Int) + 1 ∧ (p : Int) + 1 < (((iL f).set (p : Int).toNat (.int (a.getD (p + 1) 0))).length : Int) := ⟨Int.natCast_nonneg (p + 1), by rw [List.length_set, Xf]; exact Int.ofNat_lt.mpr hp1⟩
   have e5 : ((iL f).set (p : Int).toNat (.int (a.getD (p + 1) 0))).length ≤ 1000000 := by rw [List.length_set]; exact hlf
   have ep : a.getD p 0 = f.getD p 0 := by rw [List.getD_eq_getElem?_getD, List.getD_eq_getElem?_getD, hg p hc.1.1]
   have eq : a.getD (p + 1) 0 = f.getD (p + 1) 0 := by rw [List.getD_eq_getElem?_getD, List.getD_eq_getElem?_getD, hg (p + 1) (Nat.le_succ_of_le hc.1.1)]
   refine ⟨[some (.sh (.tup (iL a))), some (.sh dch), some (.ow true (.list (iL f))), some (.sh (.int p))], [some (.sh (.tup (iL a))), some (.sh dch), some (.ow true (.list (((iL f).set (p : Int).toNat (.int (a.getD (p + 1) 0))).set ((p : Int) + 1).toNat (.int (a.getD p 0))))), some (.sh (.int p))], rfl, ?_, swap f p, r, some (.sh (.int p)), p + 2, ?_, rfl, by rw [Wk]; exact hf, hr, hc.2, ?_⟩
   ·repeat' (first|(with_reducible first|assumption|exact Xa|exact QM|exact QJ|apply QR|exact XA|apply XB|exact QS|apply QL|apply Jj|exact Qo|exact Qx|apply QK|apply QA|apply QG|apply Qz|apply B8|apply ValK.ok|apply Op2K.ok|apply Op2L.ok|apply SeqK.next)|exact (rfl : Qk _ = true)|exact (rfl : (_ : Option _) = some _)|decide)
   ·rw [Eo, Eo, show ((p : Int) + 1).toNat = p + 1 from rfl, Int.toNat_natCast, ep, eq]; rfl
   ·intro i hi
    rw [Ej hp1, if_neg (Nat.ne_of_gt (Nat.lt_of_succ_lt hi)), if_neg (Nat.ne_of_gt hi)]
    exact hg i (Nat.le_trans hc.1.1 (Nat.le_of_lt (Nat.lt_of_succ_lt hi)))) (nD cs) _ ⟨a, cs, none, 0, rfl, rfl, ha, rfl, h, fun i _ => rfl⟩
 have : cs' = [] := List.map_eq_nil_iff.mp hd.symm
 subst this
 have hr' : f = rung a cs := hr
 subst hr'
 exact ⟨v, h1⟩
theorem Ww (K : Frag) {n : Nat} {a : List Int} (ha : a.length = n) (hn : n ≤ 12) {cs : List Nat} (h : Yu n 0 cs = true) : YF K [.tup (iL a), .tup (nD cs)] = .ok (.sh (.tup (iL (rung a cs)))) := by
 obtain ⟨v, h1⟩ := VG K (dch := .tup (nD cs)) ha hn h
 have e1 : Z0 [.tup (iL a)] = some (.ow true (.list (iL a))) := C0 (by rw [Xf]; omega)
 have e2 := YM (ds := iL (rung a cs)) (by rw [Xf, Wz]; omega)
 have e3 : Zr (.tup (nD cs)) = some (nD cs) := rfl
 unfold YF WQ
 refine' Xc [some (.sh (.tup (iL a))), some (.sh (.tup (nD cs))), none, none] rfl rfl ?_ Q3
 repeat' (first|(with_reducible first|assumption|exact Xa|exact QM|exact Yb|exact QJ|apply QR|exact XA|apply XB|apply QL|exact QD|apply Qt|exact Qs|apply QK|apply Q4|apply Qm|apply Xh|apply Qz|apply QX|apply Q0|apply Zl|apply OpNK.ok|apply ConsBL.ok|apply ConsBK.ok|apply ItemsK.ok|apply RetK.ok|apply AsgK.ok|apply ForK.ok|apply SeqK.next|exact SeqK.ret)|exact (rfl : Qk _ = true)|exact QP rfl|exact (rfl : (_ : Option _) = some _)|decide)
theorem Di {f : List Int} {p : Nat} (h : p + 1 < f.length) : f.take p ++ [f.getD (p + 1) 0, f.getD p 0] ++ f.drop (p + 2) = swap f p := by
 induction p generalizing f with
 | zero =>
  match f, h with
  | x :: y :: l, _ => rfl
 | succ p ih =>
  match f, h with
  | x :: l, h =>
   have : swap (x :: l) (p + 1) = x :: swap l p := by unfold swap; simp
   rw [this, ← ih (by simpa using h)]
   rfl
theorem Ef {f : List Int} {p : Nat} (h : p + 1 < f.length) : (iL f).take p ++ [.int (f.getD (p + 1) 0), .int (f.getD p 0)] ++ (iL f).drop (p + 2) = iL (swap f p) := by
 rw [← Di h]
 unfold iL
 simp
theorem Dk (K : Frag) {n : Nat} {a : List Int} {da dch : D} (ha : a.length = n) (hn : n ≤ 12) {cs : List Nat} (h : Yu n 0 cs = true) : ∃ v, ZH (Xl 3) (Qn (Qw 2 (Qp Xk (Qc (Qp Xk (Qc (Jc (eOp 2) YA (UR (eOp 3)))) (Qc (YB (QI (Qp QZ (eOp 2) (Qc (Qp Xk (eOp 3) (Qc (Qd (.int 1)))))) (QI (Qp QZ (eOp 2) (eOp 3)) Zp)))))) (Qc (Jc (eOp 2) (UR (Qc (Qp Xk (eOp 3) (Qc (Qd (.int 2)))))) YA)))) QB) (nD cs) [some (.sh da), some (.sh dch), some (.ow true (.list (iL a))), none] = .ok .next [some (.sh da), some (.sh dch), some (.ow true (.list (iL (rung a cs)))), v] := by
 obtain ⟨ρ', h1, f, cs', v, lo, rfl, hd, hf, hr, hc⟩ := VS (b := Xl 3) (sf := (Qn (Qw 2 (Qp Xk (Qc (Qp Xk (Qc (Jc (eOp 2) YA (UR (eOp 3)))) (Qc (YB (QI (Qp QZ (eOp 2) (Qc (Qp Xk (eOp 3) (Qc (Qd (.int 1)))))) (QI (Qp QZ (eOp 2) (eOp 3)) Zp)))))) (Qc (Jc (eOp 2) (UR (Qc (Qp Xk (eOp 3) (Qc (Qd (.int 2)))))) YA)))) QB)) (fun ρ ds => ∃ (f : List Int) (cs' : List Nat) (v : Option T) (lo : Nat), ρ = [some (.sh da), some (.sh dch), some (.ow true (.list (iL f))), v] ∧ ds = nD cs' ∧ f.length = n ∧ rung f cs' = rung a cs ∧ Yu n lo cs' = true) (by
  rintro ρ d ds ⟨f, cs', v, lo, rfl, hd, hf, hr, hc⟩
  cases cs' with
  | nil => cases hd
  | cons p r =>
   cases hd
   rw [Yu] at hc
   simp only [Bool.and_eq_true, decide_eq_true_eq] at hc
   have hl : (iL f).length = n := by rw [Xf]; exact hf
   have hp2 : p + 2 ≤ n := hc.1.2
   have hp1 : p + 1 < f.length := by rw [hf]; exact hp2
   have hb : p + 1 ≤ 1000 := Nat.le_trans (Nat.le_of_succ_le hp2) (DV hn)
   have hlb : (iL f).length ≤ 1000000 := by rw [hl]; exact CP hn
   have hpn : p ≤ (iL f).length := by rw [hl]; exact Nat.le_trans (Nat.le_add_right p 2) hp2
   have e1 : QZ (.list (iL f)) (.int ((p : Int) + 1)) = some (.sh (.int (f.getD (p + 1) 0))) := Vm (p := p + 1) hb (Od hp1)
   have e2 : QZ (.list (iL f)) (.int p) = some (.sh (.int (f.getD p 0))) := Vm (Nat.le_of_succ_le hb) (Od (Nat.lt_of_succ_lt hp1))
   have e3 : U0 (.list (iL f)) none (some (p : Int)) = some (.ow true (.list ((iL f).take p))) := by rw [BR hlb, FA hpn]
   have e4 : U0 (.list (iL f)) (some ((p : Int) + 2)) none = some (.ow true (.list ((iL f).drop (p + 2)))) := by
    rw [BR hlb, show ((p : Int) + 2) = ((p + 2 : Nat) : Int) from rfl, D9 (by rw [hl]; exact hp2)]
   have l1 : ((iL f).take p).length = p := by rw [List.length_take]; exact Nat.min_eq_left hpn
   have l2 : ((iL f).drop (p + 2)).length = n - (p + 2) := by rw [List.length_drop, hl]
   have e5 : Xk (.list ((iL f).take p)) (.list [.int (f.getD (p + 1) 0), .int (f.getD p 0)]) = some (.ow true (.list ((iL f).take p ++ [.int (f.getD (p + 1) 0), .int (f.getD p 0)]))) := Uc (by rw [l1]; exact Nat.le_trans hp2 (CP hn))
   have e6 : Xk (.list ((iL f).take p ++ [.int (f.getD (p + 1) 0), .int (f.getD p 0)])) (.list ((iL f).drop (p + 2))) = some (.ow true (.list (iL (swap f p)))) := by
    rw [Uc (by rw [l2, List.length_append, l1]; show p + 2 + (n - (p + 2)) ≤ 1000000; rw [Nat.add_sub_cancel' hp2]; exact CP hn), Ef hp1]
   refine ⟨[some (.sh da), some (.sh dch), some (.ow true (.list (iL f))), some (.sh (.int p))], [some (.sh da), some (.sh dch), some (.ow true (.list (iL (swap f p)))), some (.sh (.int p))], rfl, ?_, swap f p, r, _, p + 2, rfl, rfl, by rw [Wk]; exact hf, hr, hc.2⟩
   repeat' (first|(with_reducible first|assumption|exact Xa|exact Zi|exact QM|exact Yb|exact QJ|apply QR|exact XA|apply XB|exact QS|apply QL|exact ZC|apply ZG|exact Qo|exact Xg|exact Uy|exact Qx|apply QK|apply QA|apply QG|apply QW|apply Xy|apply KA|apply Ws|apply Qz|apply Q0|apply ValK.ok|apply Op2K.ok|apply Op2L.ok|apply ConsL.ok|apply ConsK.ok|apply LstK.ok|apply AsgK.ok|apply SeqK.next)|exact (rfl : Qk _ = true)|exact (rfl : (_ : Option _) = some _)|decide)) (nD cs) _ ⟨a, cs, none, 0, rfl, rfl, ha, rfl, h⟩
 have : cs' = [] := List.map_eq_nil_iff.mp hd.symm
 subst this
 have hr' : f = rung a cs := hr
 subst hr'
 exact ⟨v, h1⟩
theorem Jf (K : Frag) {n : Nat} {a : List Int} (ha : a.length = n) (hn : n ≤ 12) {cs : List Nat} (h : Yu n 0 cs = true) : XE K [.tup (iL a), .tup (nD cs)] = .ok (.sh (.tup (iL (rung a cs)))) := by
 obtain ⟨v, h1⟩ := Dk K (da := .tup (iL a)) (dch := .tup (nD cs)) ha hn h
 have e1 : Z0 [.tup (iL a)] = some (.ow true (.list (iL a))) := C0 (by rw [Xf]; omega)
 have e2 := YM (ds := iL (rung a cs)) (by rw [Xf, Wz]; omega)
 have e3 : Zr (.tup (nD cs)) = some (nD cs) := rfl
 unfold XE Wh
 refine' Xc [some (.sh (.tup (iL a))), some (.sh (.tup (nD cs))), none, none] rfl rfl ?_ Q3
 repeat' (first|(with_reducible first|assumption|exact Xa|exact QM|exact Yb|exact QJ|apply QR|exact XA|apply XB|apply QL|exact QD|apply Qt|exact Qs|apply QK|apply Q4|apply Qm|apply Xh|apply Qz|apply QX|apply Q0|apply Zl|apply OpNK.ok|apply ConsBL.ok|apply ConsBK.ok|apply ItemsK.ok|apply RetK.ok|apply AsgK.ok|apply ForK.ok|apply SeqK.next|exact SeqK.ret)|exact (rfl : Qk _ = true)|exact QP rfl|exact (rfl : (_ : Option _) = some _)|decide)
theorem Bb (K : Frag) (c : Int) (n : Nat) (h3 : 3 ≤ n) (h12 : n ≤ 12) : ∃ r, (Oe 1000 (Xj ltI (eOp 3) (Qc (Qp YO (eOp 1) (Qc (Qd (.int 1)))))) (Qn (sIf (Xj gtI (Qc (Qp Yi (Qc (Qp U3 (Qc (QF (XO K) (Qa (eOp 0) (Qa (eOp 3) Qj)))) (Qc (Qd (.int 5))))) (Qc (Qd (.int 3))))) (Qc (Qd (.int 0)))) (Qn (ZN (Qc (ZT 2 (XJ 3)))) (Qn (Qw 3 (Qp Xk (eOp 3) (Qc (Qd (.int 1))))) QB)) QB) (Qn (Qw 3 (Qp Xk (eOp 3) (Qc (Qd (.int 1))))) QB))) [some (.sh (.int c)), some (.sh (.int n)), some (.ow true (.list [])), some (.sh (.int 0))] = r ∧ ∃ cs v, r = .ok .next [some (.sh (.int c)), some (.sh (.int n)), some (.ow true (.list (nD cs))), v] ∧ Yu n 0 cs = true := by
 refine Bs (fun m ρ => ∃ (cs : List Nat) (p : Nat), ρ = [some (.sh (.int c)), some (.sh (.int n)), some (.ow true (.list (nD cs))), some (.sh (.int p))] ∧ m = 100 - p ∧ p ≤ n ∧ cs.length ≤ p ∧ (∀ r, Yu n p r = true → Yu n 0 (cs ++ r) = true)) (fun r => ∃ cs v, r = .ok .next [some (.sh (.int c)), some (.sh (.int n)), some (.ow true (.list (nD cs))), v] ∧ Yu n 0 cs = true) ?_ 1000 100 _ ⟨[], 0, rfl, rfl, Nat.zero_le _, Nat.zero_le _, fun r h => h⟩ (by decide)
 rintro m ρ ⟨cs, p, rfl, rfl, hp, hl, hc⟩
 have e0 : (YO (.int n) (.int 1)) = some (.sh (.int ((n : Int) - 1))) := rfl
 by_cases hpn : (p : Int) < (n : Int) - 1
 ·right
  have e1 := CT hpn
  have e2 := Yz K c p (Up (by omega))
  have e3 : Yi (.int ((mix c p).fdiv 5)) (.int 3) = some (.sh (.int (((mix c p).fdiv 5).fmod 3))) := Zm (by decide)
  generalize ((mix c p).fdiv 5).fmod 3 = z at e3
  have hl' : (nD cs).length ≤ 1000000 := by rw [DQ]; omega
  by_cases hz : 0 < z
  ·have e4 := FL hz
   refine ⟨[some (.sh (.int c)), some (.sh (.int n)), some (.ow true (.list (nD cs))), some (.sh (.int p))], .ok .next [some (.sh (.int c)), some (.sh (.int n)), some (.ow true (.list (nD cs ++ [.int p]))), some (.sh (.int ((p : Int) + 1 + 1)))], ?_, ?_, 100 - (p + 2), by omega, cs ++ [p], p + 2, ?_, rfl, by omega, by simp; omega, ?_⟩
   ·repeat' (first|(with_reducible first|assumption|exact Xa|exact QM|exact QJ|apply QR|exact XA|apply XB|exact QS|apply QL|exact QD|apply Qt|apply Jj|exact Qo|exact Qs|exact Qx|apply QK|apply QA|apply Qm|apply QG|apply QC|apply QE|apply Zz|apply Qz|apply Xe|apply XU|apply Q0|apply Zm|apply Y0|apply ValK.ok|apply Op2K.ok|apply Op2L.ok|apply CallK.ok|apply ConsBL.ok|apply ConsBK.ok|apply Test2L.ok|apply Test2K.ok|apply ExprK.ok|apply AsgK.ok|apply SeqK.next|apply IfK.t|apply IfK.f)|exact Q9 rfl|exact (rfl : Qk _ = true)|exact QP rfl|exact (rfl : (_ : Option _) = some _)|decide)
   ·repeat' (first|(with_reducible first|assumption|exact Xa|exact QM|exact QJ|apply QR|exact XA|apply XB|exact QS|apply QL|exact QD|apply Qt|apply Jj|exact Qo|exact Qs|exact Qx|apply QK|apply QA|apply Qm|apply QG|apply QC|apply QE|apply Zz|apply Qz|apply Xe|apply XU|apply Q0|apply Zm|apply Y0|apply ValK.ok|apply Op2K.ok|apply Op2L.ok|apply CallK.ok|apply ConsBL.ok|apply ConsBK.ok|apply Test2L.ok|apply Test2K.ok|apply ExprK.ok|apply AsgK.ok|apply SeqK.next|apply IfK.t|apply IfK.f)|exact Q9 rfl|exact (rfl : Qk _ = true)|exact QP rfl|exact (rfl : (_ : Option _) = some _)|decide)
   ·rw [show ((p : Int) + 1 + 1) = ((p + 2 : Nat) : Int) from rfl]
    unfold nD; rw [List.map_append]; rfl
   ·intro r hr
    rw [List.append_assoc]
    refine hc _ ?_
    show (decide _ && decide _ && Yu n (p + 2) r) = true
    rw [hr, decide_eq_true (Nat.le_refl _), decide_eq_true (by omega)]; rfl
  ·have e4 := Fi hz
   refine ⟨[some (.sh (.int c)), some (.sh (.int n)), some (.ow true (.list (nD cs))), some (.sh (.int p))], .ok .next [some (.sh (.int c)), some (.sh (.int n)), some (.ow true (.list (nD cs))), some (.sh (.int ((p : Int) + 1)))], ?_, ?_, 100 - (p + 1), by omega, cs, p + 1, ?_, rfl, by omega, by omega, ?_⟩
   ·repeat' (first|(with_reducible first|assumption|exact Xa|exact QM|exact QJ|apply QR|exact XA|apply XB|exact QS|apply QL|exact QD|apply Qt|apply Jj|exact Qo|exact Qs|exact Qx|apply QK|apply QA|apply Qm|apply QG|apply QC|apply QE|apply Zz|apply Qz|apply Xe|apply XU|apply Q0|apply Zm|apply Y0|apply ValK.ok|apply Op2K.ok|apply Op2L.ok|apply CallK.ok|apply ConsBL.ok|apply ConsBK.ok|apply Test2L.ok|apply Test2K.ok|apply ExprK.ok|apply AsgK.ok|apply SeqK.next|apply IfK.t|apply IfK.f)|exact Q9 rfl|exact (rfl : Qk _ = true)|exact QP rfl|exact (rfl : (_ : Option _) = some _)|decide)
   ·repeat' (first|(with_reducible first|assumption|exact Xa|exact QM|exact QJ|apply QR|exact XA|apply XB|exact QS|apply QL|exact QD|apply Qt|apply Jj|exact Qo|exact Qs|exact Qx|apply QK|apply QA|apply Qm|apply QG|apply QC|apply QE|apply Zz|apply Qz|apply Xe|apply XU|apply Q0|apply Zm|apply Y0|apply ValK.ok|apply Op2K.ok|apply Op2L.ok|apply CallK.ok|apply ConsBL.ok|apply ConsBK.ok|apply Test2L.ok|apply Test2K.ok|apply ExprK.ok|apply AsgK.ok|apply SeqK.next|apply IfK.t|apply IfK.f)|exact Q9 rfl|exact (rfl : Qk _ = true)|exact QP rfl|exact (rfl : (_ : Option _) = some _)|decide)
   ·rfl
   ·intro r hr
    refine hc r ?_
    cases r with
    | nil => rfl
    | cons q r =>
     rw [Yu] at hr ⊢
     simp only [Bool.and_eq_true, decide_eq_true_eq] at hr ⊢
     exact ⟨⟨by omega, hr.1.2⟩, hr.2⟩
 ·left
  have e1 := Fn hpn
  refine ⟨[some (.sh (.int c)), some (.sh (.int n)), some (.ow true (.list (nD cs))), some (.sh (.int p))], ?_, cs, _, rfl, ?_⟩
  ·repeat' (first|(with_reducible first|assumption|exact Xa|exact QM|exact QJ|apply QR|exact XA|apply XB|exact QS|apply QL|exact QD|apply Qt|apply Jj|exact Qo|exact Qs|exact Qx|apply QK|apply QA|apply Qm|apply QG|apply QC|apply QE|apply Zz|apply Qz|apply Xe|apply XU|apply Q0|apply Zm|apply Y0|apply ValK.ok|apply Op2K.ok|apply Op2L.ok|apply CallK.ok|apply ConsBL.ok|apply ConsBK.ok|apply Test2L.ok|apply Test2K.ok|apply ExprK.ok|apply AsgK.ok|apply SeqK.next|apply IfK.t|apply IfK.f)|exact Q9 rfl|exact (rfl : Qk _ = true)|exact QP rfl|exact (rfl : (_ : Option _) = some _)|decide)
  ·have := hc [] rfl
   rwa [List.append_nil] at this
theorem Dn (cs : List Nat) : eqI (.list (nD cs)) (.list []) = some (.sh (.bool (decide (cs = [])))) := by
 have := BN (cs.map fun (p : Nat) => (p : Int)) []
 rw [← F9] at this
 rw [show (D.list (iL [])) = .list [] from rfl] at this
 rw [this]
 congr 3
 unfold eqB
 exact decide_eq_decide.mpr List.map_eq_nil_iff
theorem JU (K : Frag) (c : Int) (n : Nat) (h3 : 3 ≤ n) (h12 : n ≤ 12) : ∃ cs, Xm K [.int c, .int n] = .ok (.sh (.tup (nD cs))) ∧ Change n cs := by
 obtain ⟨r, h1, cs, v, rfl, hc⟩ := Bb K c n h3 h12
 have e1 := Dn cs
 have hl := KQ hc (Nat.zero_le _)
 by_cases hz : cs = []
 ·subst hz
  rw [decide_eq_true rfl] at e1
  have e2 := Yz K c 20 (Up (by decide))
  obtain ⟨p, hp, hpn⟩ := Bl (mix c 20) (n := n - 1) (by omega)
  have e0 : (YO (.int n) (.int 1)) = some (.sh (.int ((n : Int) - 1))) := rfl
  have e3 : Yi (.int (mix c 20)) (.int ((n : Int) - 1)) = some (.sh (.int p)) := by rw [Zm (by omega), show ((n : Int) - 1) = ((n - 1 : Nat) : Int) by omega, hp]
  refine ⟨[p], ?_, by simp, ?_⟩
  ·have e4 : XH [.list [.int p]] = some (.sh (.tup (nD [p]))) := YM (ds := [.int p]) (by simp)
   unfold Xm YC
   refine' Xc [some (.sh (.int c)), some (.sh (.int n)), none, none] rfl rfl ?_ Q3
   repeat' (first|(with_reducible first|assumption|exact Xa|exact Zi|exact QM|exact Yb|exact QJ|apply QR|exact XA|apply XB|exact QS|apply QL|exact QD|apply Qt|exact ZC|apply ZG|exact Qo|exact Qs|exact Xg|exact Qx|apply QK|apply QA|apply Q4|apply Qm|apply QG|apply QC|apply QW|apply QE|apply Xy|apply Qz|apply Xe|apply QX|apply Q0|apply Zm|apply ValK.ok|apply Op2K.ok|apply Op2L.ok|apply OpNK.ok|apply CallK.ok|apply ConsBL.ok|apply ConsBK.ok|apply ConsL.ok|apply ConsK.ok|apply LstK.ok|apply Test2L.ok|apply Test2K.ok|apply RetK.ok|apply AsgK.ok|apply SeqK.next|exact SeqK.ret|apply IfK.t|apply IfK.f)|exact Q9 rfl|exact (rfl : Qk _ = true)|exact (rfl : (_ : Option _) = some _)|decide)
  ·show (decide _ && decide _ && true) = true
   rw [decide_eq_true (Nat.zero_le _), decide_eq_true (by omega)]; rfl
 ·rw [decide_eq_false hz] at e1
  refine ⟨cs, ?_, hz, hc⟩
  have e4 := YM (ds := nD cs) (by rw [DQ]; omega)
  unfold Xm YC
  refine' Xc [some (.sh (.int c)), some (.sh (.int n)), none, none] rfl rfl ?_ Q3
  repeat' (first|(with_reducible first|assumption|exact Xa|exact Zi|exact QM|exact Yb|exact QJ|apply QR|exact XA|apply XB|exact QS|apply QL|exact QD|apply Qt|exact ZC|apply ZG|exact Qo|exact Qs|exact Xg|exact Qx|apply QK|apply QA|apply Q4|apply Qm|apply QG|apply QC|apply QW|apply QE|apply Xy|apply Qz|apply Xe|apply QX|apply Q0|apply Zm|apply ValK.ok|apply Op2K.ok|apply Op2L.ok|apply OpNK.ok|apply CallK.ok|apply ConsBL.ok|apply ConsBK.ok|apply ConsL.ok|apply ConsK.ok|apply LstK.ok|apply Test2L.ok|apply Test2K.ok|apply RetK.ok|apply AsgK.ok|apply SeqK.next|exact SeqK.ret|apply IfK.t|apply IfK.f)|exact Q9 rfl|exact (rfl : Qk _ = true)|exact (rfl : (_ : Option _) = some _)|decide)
theorem CC (K : Frag) {n : Nat} {dch : D} : ∀ (cs : List Nat) (lo : Nat) (v : Option T), Yu n lo cs = true → ∃ (a : Int) (v' : Option T), ZH (Xl 3) (Qn (sIf (eOr (Zj (Xi (Qc (QF (Xx K) (Qa (eOp 3) Qj))))) (eOr (Zj (ZU leI leI (Qc (Qp Xk (eOp 2) (Qc (Qd (.int 2))))) (eOp 3) (Qc (Qp YO (eOp 0) (Qc (Qd (.int 2))))))) X7)) (Qn (fun _ => .stuck) QB) QB) (Qn (Qw 2 (XJ 3)) QB)) (nD cs) [some (.sh (.int n)), some (.sh dch), some (.sh (.int ((lo : Int) - 2))), v] = .ok .next [some (.sh (.int n)), some (.sh dch), some (.sh (.int a)), v'] := by
 intro cs
 induction cs with
 | nil => intro lo v _; exact ⟨_, v, rfl⟩
 | cons p r ih =>
  intro lo v h
  obtain ⟨h, h3⟩ := Bool.and_eq_true_iff.mp (show (decide (lo ≤ p) && decide (p + 2 ≤ n) && Yu n (p + 2) r) = true from h)
  obtain ⟨h1, h2⟩ := Bool.and_eq_true_iff.mp h
  have h1 := of_decide_eq_true h1
  have h2 := of_decide_eq_true h2
  have e : Xx K [.int (p : Int)] = .ok (.sh (.bool true)) := ZO K (.int p) rfl
  have e0 : Xk (.int ((lo : Int) - 2)) (.int 2) = some (.sh (.int ((lo : Int) - 2 + 2))) := rfl
  have e1 := JQ (a := (lo : Int) - 2 + 2) (b := (p : Int)) (by omega)
  have e2 := JQ (a := (p : Int)) (b := (n : Int) - 2) (by omega)
  have e3 : YO (.int (n : Int)) (.int 2) = some (.sh (.int ((n : Int) - 2))) := rfl
  obtain ⟨a, v', q⟩ := ih (p + 2) (some (.sh (.int p))) h3
  rw [show (((p + 2 : Nat) : Int) - 2) = (p : Int) by omega] at q
  refine ⟨a, v', ?_⟩
  show ZH _ _ (D.int (p : Nat) :: nD r) _ = _
  repeat' (first|(with_reducible first|assumption|exact Xa|exact QM|exact QJ|apply QR|exact XA|apply XB|exact QS|apply QL|exact QD|apply Qt|exact Qo|exact Qs|exact Q5|exact Qx|apply QK|apply QA|apply Qm|apply QG|apply QC|apply Q1|apply Xz|apply Zb|apply ZK|apply Qz|apply Xe|apply Q0|apply ValK.ok|apply Op2K.ok|apply Op2L.ok|apply CallK.ok|apply ConsBL.ok|apply ConsBK.ok|apply TruthK.ok|apply ChainN.ok|apply ChainL.ok|apply ChainK.ok|apply AsgK.ok|exact NotK.t|apply OrK.f|apply ChainM.t|apply SeqK.next|apply IfK.f|apply Zc|apply Z4|apply ForL.next)|exact Q9 rfl|exact (rfl : Qk _ = true)|exact QP rfl|exact (rfl : (_ : Option _) = some _)|decide)
theorem WK (K : Frag) {n : Nat} {cs : List Nat} (h : Change n cs) (hn : n ≤ 12) : ZM K [.int n, .tup (nD cs)] = .ok (.sh .none) := by
 have hl := KQ h.ok (Nat.zero_le _)
 have e' : QV K [.tup (nD cs), .glob (.type "tuple")] = some (.sh (.bool true)) := Zs K (.tup (nD cs)) rfl
 have e2 := Ur (ds := nD cs) (by unfold nD; rw [List.length_map]; omega)
 have e3 := CZ (a := ((nD cs).length : Int)) (b := 0) (by
  have := List.length_pos_iff.mpr h.ne; unfold nD; rw [List.length_map]; omega)
 obtain ⟨a, v', h1⟩ := CC K (n := n) (dch := .tup (nD cs)) cs 0 none h.ok
 have h1 : ZH (Xl 3) _ (nD cs) [some (.sh (.int n)), some (.sh (.tup (nD cs))), some (.sh (.int (-2))), none] = .ok .next [some (.sh (.int n)), some (.sh (.tup (nD cs))), some (.sh (.int a)), v'] := h1
 have e4 : Zr (.tup (nD cs)) = some (nD cs) := rfl
 have e5 : JC (.int 2) = some (.sh (.int (-2))) := rfl
 unfold ZM Jd
 refine' Xc [some (.sh (.int n)), some (.sh (.tup (nD cs))), none, none] rfl rfl ?_ Wp
 repeat' (first|(with_reducible first|assumption|exact Xa|exact QM|exact QJ|apply QR|exact XA|apply XB|exact QS|apply QL|exact QD|apply Qt|exact Qo|exact Qs|exact Q5|exact Qx|apply QK|apply QA|apply Q4|apply Qm|apply Q1|apply QE|apply Xz|apply Zb|apply WT|apply Xh|apply Qz|apply Xe|apply Q0|apply Zl|apply ValK.ok|apply Op1K.ok|apply OpNK.ok|apply ConsBL.ok|apply ConsBK.ok|apply TruthK.ok|apply Test2L.ok|apply Test2K.ok|apply ItemsK.ok|apply AsgK.ok|apply ForK.ok|exact NotK.t|apply OrK.f|apply SeqK.next|apply IfK.f)|exact (rfl : Qk _ = true)|exact QP rfl|exact (rfl : (_ : Option _) = some _)|decide)
end Mine
end

section
set_option Elab.async false
set_option maxRecDepth 100000
set_option maxHeartbeats 4000000
set_option linter.unusedSimpArgs false
set_option linter.unusedVariables false
namespace Mine
open PySem PySem.W
noncomputable def Qy (l : List (List Int)) : List D := l.map fun a => D.tup (iL a)
noncomputable def chD (chs : List (List Nat)) : List D := chs.map fun c => D.tup (nD c)
noncomputable def QN (a : List Int) : List (List Nat) → List (List Int)
 | [] => [a]
 | c :: cs => a :: QN (rung a c) cs
theorem Uw (chs : List (List Nat)) : ∀ a, (QN a chs).length = chs.length + 1 := by
 induction chs with
 | nil => intro a; rfl
 | cons c cs ih => intro a; rw [QN, List.length_cons, ih, List.length_cons]
theorem XC (l : List (List Int)) : (Qy l).length = l.length := by unfold Qy; simp
structure Chs (n : Nat) (chs : List (List Nat)) : Prop where
 h3 : 3 ≤ n
 h12 : n ≤ 12
 len : chs.length ≤ 30
 all : ∀ c ∈ chs, Change n c
noncomputable def mth (n : Nat) (chs ws : List (List Nat)) : D := .obj 233 ["bells", "steps", "ways"] [.int n, .list (chD chs), .list (chD ws)]
theorem J6 {l : List (List Int)} {a : List Int} (hl : l.length ≤ 1000) : QZ (.list (Qy (l ++ [a]))) (.int (-1)) = some (.sh (.tup (iL a))) := by
 have := Dt (ds := Qy l) (d := .tup (iL a)) (by rw [XC]; exact hl)
 rw [show Qy (l ++ [a]) = Qy l ++ [.tup (iL a)] from List.map_append]
 exact this
theorem Vn (l : List (List Int)) (a : List Int) : Qy l ++ [.tup (iL a)] = Qy (l ++ [a]) := by unfold Qy; rw [List.map_append]; rfl
theorem Dm (K : Frag) {n : Nat} {dself dhead : D} (hn : n ≤ 12) (chs : List (List Nat)) : (∀ c ∈ chs, Change n c) → chs.length ≤ 100 → ∀ (pre : List (List Int)) (a : List Int) (v : Option T), a.length = n → pre.length + chs.length ≤ 200 →
  ∃ v', ZH (Xl 3) (Qn (ZN (Qc (ZT 2 (QF (YF K) (Qa (Qc (Qp QZ (eOp 2) (Qc (U9 JC (Qc (Qd (.int 1))))))) (Qa (eOp 3) Qj)))))) QB) (chD chs) [some (.sh dself), some (.sh dhead), some (.ow true (.list (Qy (pre ++ [a])))), v] = .ok .next [some (.sh dself), some (.sh dhead), some (.ow true (.list (Qy (pre ++ QN a chs)))), v'] := by
 induction chs with
 | nil => intro hc hl pre a v ha hp; exact ⟨v, rfl⟩
 | cons c cs ih =>
  intro hc hl pre a v ha hp
  rw [List.length_cons] at hl hp
  have hcc := hc c (.head _)
  have e1 := Ww K ha hn hcc.ok
  have e2 := J6 (l := pre) (a := a) (by omega)
  have hlen : (Qy (pre ++ [a])).length ≤ 1000000 := by rw [XC, List.length_append]; simp; omega
  have e3 : JC (.int 1) = some (.sh (.int (-1))) := rfl
  obtain ⟨v', h⟩ := ih (fun x hx => hc x (.tail _ hx)) (by omega) (pre ++ [a]) (rung a c) (some (.sh (.tup (nD c)))) (by rw [Wz]; exact ha) (by rw [List.length_append]; simp; omega)
  refine ⟨v', ?_⟩
  rw [show QN a (c :: cs) = [a] ++ QN (rung a c) cs from rfl, ← List.append_assoc]
  rw [← Vn (pre ++ [a])] at h
  show ZH _ _ (D.tup (nD c) :: chD cs) _ = _
  repeat' (first|(with_reducible first|assumption|exact Xa|exact QM|exact Yb|exact QJ|apply QR|exact XA|apply XB|exact QS|apply QL|exact QD|apply Qt|apply Jj|exact Qo|exact Qs|exact Qx|apply QK|apply QA|apply Qm|apply QG|apply QC|apply WT|apply Zz|apply Qz|apply XU|apply ValK.ok|apply Op1K.ok|apply Op2K.ok|apply Op2L.ok|apply CallK.ok|apply ConsBL.ok|apply ConsBK.ok|apply ExprK.ok|apply SeqK.next|apply Zc|apply Z4|apply ForL.next)|exact Q9 rfl|exact (rfl : Qk _ = true)|exact (rfl : (_ : Option _) = some _)|decide)
theorem OW (K : Frag) {n : Nat} {dhead dinner : D} (hn : n ≤ 12) (chs : List (List Nat)) : (∀ c ∈ chs, Change n c) → chs.length ≤ 100 → ∀ (pre : List (List Int)) (a : List Int) (v : Option T), a.length = n → pre.length + chs.length ≤ 200 →
  ∃ v', ZH (Xl 3) (Qn (ZN (Qc (ZT 2 (QF (XE K) (Qa (Qc (Qp QZ (eOp 2) (Qc (U9 JC (Qc (Qd (.int 1))))))) (Qa (eOp 3) Qj)))))) QB) (chD chs) [some (.sh dhead), some (.sh dinner), some (.ow true (.list (Qy (pre ++ [a])))), v] = .ok .next [some (.sh dhead), some (.sh dinner), some (.ow true (.list (Qy (pre ++ QN a chs)))), v'] := by
 induction chs with
 | nil => intro hc hl pre a v ha hp; exact ⟨v, rfl⟩
 | cons c cs ih =>
  intro hc hl pre a v ha hp
  rw [List.length_cons] at hl hp
  have hcc := hc c (.head _)
  have e1 := Jf K ha hn hcc.ok
  have e2 := J6 (l := pre) (a := a) (by omega)
  have hlen : (Qy (pre ++ [a])).length ≤ 1000000 := by rw [XC, List.length_append]; simp; omega
  have e3 : JC (.int 1) = some (.sh (.int (-1))) := rfl
  obtain ⟨v', h⟩ := ih (fun x hx => hc x (.tail _ hx)) (by omega) (pre ++ [a]) (rung a c) (some (.sh (.tup (nD c)))) (by rw [Wz]; exact ha) (by rw [List.length_append]; simp; omega)
  refine ⟨v', ?_⟩
  rw [show QN a (c :: cs) = [a] ++ QN (rung a c) cs from rfl, ← List.append_assoc]
  rw [← Vn (pre ++ [a])] at h
  show ZH _ _ (D.tup (nD c) :: chD cs) _ = _
  repeat' (first|(with_reducible first|assumption|exact Xa|exact QM|exact Yb|exact QJ|apply QR|exact XA|apply XB|exact QS|apply QL|exact QD|apply Qt|apply Jj|exact Qo|exact Qs|exact Qx|apply QK|apply QA|apply Qm|apply QG|apply QC|apply WT|apply Zz|apply Qz|apply XU|apply ValK.ok|apply Op1K.ok|apply Op2K.ok|apply Op2L.ok|apply CallK.ok|apply ConsBL.ok|apply ConsBK.ok|apply ExprK.ok|apply SeqK.next|apply Zc|apply Z4|apply ForL.next)|exact Q9 rfl|exact (rfl : Qk _ = true)|exact (rfl : (_ : Option _) = some _)|decide)
theorem On (K : Frag) {n : Nat} {a : List Int} {chs ws : List (List Nat)} (ra : Row n a) : X6 K [mth n chs ws, .tup (iL a)] = .ok (.sh .none) := by
 have e1 := V0 K ra
 have e2 := Ur (ds := iL a) (by rw [Xf, ra.len]; have := ra.h12; omega)
 rw [Xf, ra.len] at e2
 have e3 := FT (n : Int)
 unfold X6 ZW
 refine' Xc [some (.sh (mth n chs ws)), some (.sh (.tup (iL a)))] rfl rfl ?_ Wp
 unfold mth
 repeat' (first|(with_reducible first|assumption|exact Xa|exact QM|exact QJ|apply QR|exact QS|apply QL|exact QD|apply Qt|exact J9|exact Qs|exact Q5|exact Qx|apply QK|apply QA|apply Q4|apply Qm|apply QC|apply Q1|apply QE|apply Xz|apply Zb|apply Qz|apply Xe|apply ZR|apply ValK.ok|apply OpNK.ok|apply CallK.ok|apply ConsBL.ok|apply ConsBK.ok|apply TruthK.ok|apply Test2L.ok|apply Test2K.ok|exact NotK.t|apply OrK.f|apply SeqK.next|apply IfK.f)|exact Q9 rfl|exact (rfl : Qk _ = true)|exact (rfl : (_ : Option _) = some _)|decide)
theorem Vp (K : Frag) {n : Nat} {a : List Int} {chs ws : List (List Nat)} (ra : Row n a) (hc : Chs n chs) : ZI K [mth n chs ws, .tup (iL a)] = .ok (.ow true (.list (Qy (QN a chs)))) := by
 have e1 := On K (chs := chs) (ws := ws) ra
 obtain ⟨v', h⟩ := Dm K (dself := mth n chs ws) (dhead := .tup (iL a)) ra.h12 chs hc.all (by have := hc.len; omega) [] a none ra.len (by have := hc.len; simp; omega)
 have h : ZH (Xl 3) _ (chD chs) [some (.sh (mth n chs ws)), some (.sh (.tup (iL a))), some (.ow true (.list [.tup (iL a)])), none] = .ok .next [some (.sh (mth n chs ws)), some (.sh (.tup (iL a))), some (.ow true (.list (Qy (QN a chs)))), v'] := h
 have e2 : Zr (.list (chD chs)) = some (chD chs) := rfl
 unfold ZI Y6
 refine' Xc [some (.sh (mth n chs ws)), some (.sh (.tup (iL a))), none, none] rfl rfl ?_ Q3
 unfold mth at *
 repeat' (first|(with_reducible first|assumption|exact Xa|exact QM|exact QJ|apply QR|exact XA|apply XB|apply QL|exact QD|apply Qt|exact ZC|apply ZG|exact Kz|exact Qs|exact Xg|apply QK|apply QA|apply Qm|apply QW|apply Xy|apply Xh|apply Qz|apply XU|apply Q0|apply Zl|apply ZR|apply Jz|apply ValK.ok|apply ConsBL.ok|apply ConsBK.ok|apply ConsL.ok|apply ConsK.ok|apply LstK.ok|apply ItemsK.ok|apply ExprK.ok|apply AsgK.ok|apply ForK.ok|apply SeqK.next|exact SeqK.ret|apply MtdK.ok)|exact Q9 rfl|exact (rfl : Qk _ = true)|exact QP rfl|exact Vb rfl|exact (rfl : (_ : Option _) = some _)|decide)
theorem UP (K : Frag) {n : Nat} {a : List Int} {chs : List (List Nat)} (ha : a.length = n) (hc : Chs n chs) : Yd K [.tup (iL a), .list (chD chs)] = .ok (.ow true (.list (Qy (QN a chs)))) := by
 obtain ⟨v', h⟩ := OW K (dhead := .tup (iL a)) (dinner := .list (chD chs)) hc.h12 chs hc.all (by have := hc.len; omega) [] a none ha (by have := hc.len; simp; omega)
 have h : ZH (Xl 3) _ (chD chs) [some (.sh (.tup (iL a))), some (.sh (.list (chD chs))), some (.ow true (.list [.tup (iL a)])), none] = .ok .next [some (.sh (.tup (iL a))), some (.sh (.list (chD chs))), some (.ow true (.list (Qy (QN a chs)))), v'] := h
 have e2 : Zr (.list (chD chs)) = some (chD chs) := rfl
 unfold Yd U2
 refine' Xc [some (.sh (.tup (iL a))), some (.sh (.list (chD chs))), none, none] rfl rfl ?_ Q3
 repeat' (first|(with_reducible first|assumption|exact Xa|exact XA|apply XB|exact ZC|apply ZG|exact Xg|apply QW|apply Xy|apply Xh|apply Qz|apply Q0|apply Zl|apply ConsL.ok|apply ConsK.ok|apply LstK.ok|apply ItemsK.ok|apply AsgK.ok|apply ForK.ok|apply SeqK.next|exact SeqK.ret)|exact (rfl : Qk _ = true)|exact QP rfl|exact Vb rfl|exact (rfl : (_ : Option _) = some _)|decide)
theorem FG {ρ : AEnv} (h : Za ρ = true) : ZB [] ρ = some [] := if_pos h
theorem VW {ρ ρ₁ : AEnv} {n : Str} {f : AEnv → Res T} {fs : List (Str × (AEnv → Res T))} {t : T} {d : D} {ds : List D} (h : Za ρ = true) (hf : f ρ = .ok t ρ₁) (hv : t.val = d) (hr : ZB fs ρ₁ = some ds) : ZB ((n, f) :: fs) ρ = some (d :: ds) := by
 subst hv
 refine (if_pos h).trans ?_
 conv => lhs; rw [hf]; whnf; rw [hr]
theorem DN {n : Nat} {is : List Nat} {i₀ : Nat} {f : AEnv → Res Fl} {ts : List (Str × (AEnv → Res T))} {x : Addr} {ds es : List D} {ρ ρ₁ : AEnv} (hl : ds.length + 1 = is.length) (hi : OB n is (.glob (.ref x) :: ds) = ρ) (h : f ρ = .ok .next ρ₁) (hs : ρ₁[i₀]? = some (some (.sh (.glob (.ref x))))) (ht : ZB ts ρ₁ = some es) : BE n is i₀ f ts x ds = .ok es := by
 subst hi
 refine (if_pos hl).trans ?_
 conv => lhs; whnf; rw [h]; whnf; rw [hs]
 refine (if_pos rfl).trans ?_
 conv => lhs; rw [ht]
theorem Xu (l : List (List Nat)) : (chD l).length = l.length := by unfold chD; simp
theorem DE (K : Frag) {n : Nat} (h12 : n ≤ 12) {a b c : D} {chs : List (List Nat)} (h : ∀ x ∈ chs, Change n x) : ∀ v₀, EL v₀ = true → ∃ v, EL v = true ∧ ZH (Xl 4) (Qn (ZN (Qc (QF (ZM K) (Qa (eOp 1) (Qa (eOp 4) Qj))))) QB) (chD chs) [some (.sh a), some (.sh (.int n)), some (.sh b), some (.sh c), v₀] = .ok .next [some (.sh a), some (.sh (.int n)), some (.sh b), some (.sh c), v] := by
 induction chs with
 | nil => intro v₀ hv; exact ⟨v₀, hv, rfl⟩
 | cons x xs ih =>
  intro v₀ _
  have e1 := WK K (h x (.head _)) h12
  obtain ⟨v, h1, h2⟩ := ih (fun y hy => h y (.tail _ hy)) (some (.sh (.tup (nD x)))) rfl
  refine ⟨v, h1, ?_⟩
  show ZH _ _ (D.tup (nD x) :: chD xs) _ = _
  repeat' (first|(with_reducible first|assumption|exact Xa|exact QM|exact QJ|apply QR|exact XA|apply XB|apply QL|exact QD|apply Qt|exact Qs|exact Qx|apply QK|apply QA|apply Qm|apply QC|apply Qz|apply XU|apply ValK.ok|apply CallK.ok|apply ConsBL.ok|apply ConsBK.ok|apply ExprK.ok|apply SeqK.next|apply Zc|apply Z4|apply ForL.next)|exact Q9 rfl|exact (rfl : Qk _ = true)|exact (rfl : (_ : Option _) = some _)|decide)
theorem WP (K : Frag) (ds : List D) : QV K [.list ds, .glob (.type "list")] = some (.sh (.bool true)) := by kernel_rfl
theorem Yj {ds : List D} (h : ds.length ≤ 1000000) : Z0 [.list ds] = some (.ow true (.list ds)) := EJ h
theorem Be (K : Frag) {n : Nat} {chs ws : List (List Nat)} (hc : Chs n chs) (hw : ∀ c ∈ ws, Change n c) (h1 : 1 ≤ ws.length) (h4 : ws.length ≤ 4) : Ku (Jo K) [.int n, .list (chD chs), .list (chD ws)] = .ok [.int n, .list (chD chs), .list (chD ws)] := by
 refine EU fun x => ?_
 have e1 := JP K n (by have := hc.h3; omega) (by have := hc.h12; omega)
 have e2 := WP K (chD chs)
 have e3 := WP K (chD ws)
 have e4 := XN (ds := chD chs) (by rw [Xu]; have := hc.len; omega)
 have e5 := XN (ds := chD ws) (by rw [Xu]; omega)
 rw [Xu] at e4 e5
 have e6 := Fi (a := (chs.length : Int)) (b := 30) (by have := hc.len; omega)
 have e7 := JQ (a := 1) (b := (ws.length : Int)) (by omega)
 have e8 := JQ (a := (ws.length : Int)) (b := 4) (by omega)
 have e9 : Xk (.list (chD chs)) (.list (chD ws)) = some (.ow true (.list (chD (chs ++ ws)))) := by
  rw [Uc (by rw [Xu, Xu]; have := hc.len; omega)]
  unfold chD; rw [List.map_append]
 obtain ⟨v, hv, h⟩ := DE K (a := .glob (.ref x)) (b := .list (chD chs)) (c := .list (chD ws)) hc.h12 (chs := chs ++ ws) (fun c hcm => (List.mem_append.mp hcm).elim (hc.all c) (hw c)) none rfl
 have e10 : Zr (.list (chD (chs ++ ws))) = some (chD (chs ++ ws)) := rfl
 have e11 := Yj (ds := chD chs) (by rw [Xu]; have := hc.len; omega)
 have e12 := Yj (ds := chD ws) (by rw [Xu]; omega)
 have sh : Za [some (.sh (.glob (.ref x))), some (.sh (.int n)), some (.sh (.list (chD chs))), some (.sh (.list (chD ws))), v] = true := by
  show (true && (true && (true && (true && (EL v && true))))) = true
  rw [hv]; rfl
 unfold Jo Y9 Jh
 refine' DN (ρ := [some (.sh (.glob (.ref x))), some (.sh (.int n)), some (.sh (.list (chD chs))), some (.sh (.list (chD ws))), none]) (ρ₁ := [some (.sh (.glob (.ref x))), some (.sh (.int n)), some (.sh (.list (chD chs))), some (.sh (.list (chD ws))), v]) rfl rfl ?_ rfl ?_
 ·repeat' (first|(with_reducible first|assumption|exact Xa|exact Zi|exact QM|exact QJ|apply QR|exact QS|apply QL|exact QD|apply Qt|exact Qo|exact Qs|exact Q5|exact Qx|apply QK|apply QA|apply Q4|apply Qm|apply QG|apply QC|apply Q1|apply QE|apply Xz|apply Zb|apply ZK|apply Xh|apply Qz|apply Xe|apply XU|apply Zl|apply ValK.ok|apply Op2K.ok|apply Op2L.ok|apply OpNK.ok|apply CallK.ok|apply ConsBL.ok|apply ConsBK.ok|apply TruthK.ok|apply Test2L.ok|apply Test2K.ok|apply ChainN.ok|apply ChainL.ok|apply ChainK.ok|apply ItemsK.ok|apply ExprK.ok|apply ForK.ok|exact NotK.t|apply OrK.f|apply ChainM.t|apply SeqK.next|apply IfK.f)|exact Q9 rfl|exact (rfl : Qk _ = true)|exact QP rfl|exact (rfl : (_ : Option _) = some _)|decide)
 ·refine' VW sh (ρ₁ := [some (.sh (.glob (.ref x))), some (.sh (.int n)), some (.sh (.list (chD chs))), some (.sh (.list (chD ws))), v]) ?_ Xa (VW sh (ρ₁ := [some (.sh (.glob (.ref x))), some (.sh (.int n)), some (.sh (.list (chD chs))), some (.sh (.list (chD ws))), v]) ?_ Zi (VW sh (ρ₁ := [some (.sh (.glob (.ref x))), some (.sh (.int n)), some (.sh (.list (chD chs))), some (.sh (.list (chD ws))), v]) ?_ Zi (FG sh)))
  ·exact QP rfl
  ·repeat' (first|(with_reducible first|assumption|exact Xa|exact Zi|exact QM|exact QJ|apply QR|exact QS|apply QL|exact QD|apply Qt|exact Qo|exact Qs|exact Q5|exact Qx|apply QK|apply QA|apply Q4|apply Qm|apply QG|apply QC|apply Q1|apply QE|apply Xz|apply Zb|apply ZK|apply Xh|apply Qz|apply Xe|apply XU|apply Zl|apply ValK.ok|apply Op2K.ok|apply Op2L.ok|apply OpNK.ok|apply CallK.ok|apply ConsBL.ok|apply ConsBK.ok|apply TruthK.ok|apply Test2L.ok|apply Test2K.ok|apply ChainN.ok|apply ChainL.ok|apply ChainK.ok|apply ItemsK.ok|apply ExprK.ok|apply ForK.ok|exact NotK.t|apply OrK.f|apply ChainM.t|apply SeqK.next|apply IfK.f)|exact Q9 rfl|exact (rfl : Qk _ = true)|exact QP rfl|exact (rfl : (_ : Option _) = some _)|decide)
  ·repeat' (first|(with_reducible first|assumption|exact Xa|exact Zi|exact QM|exact QJ|apply QR|exact QS|apply QL|exact QD|apply Qt|exact Qo|exact Qs|exact Q5|exact Qx|apply QK|apply QA|apply Q4|apply Qm|apply QG|apply QC|apply Q1|apply QE|apply Xz|apply Zb|apply ZK|apply Xh|apply Qz|apply Xe|apply XU|apply Zl|apply ValK.ok|apply Op2K.ok|apply Op2L.ok|apply OpNK.ok|apply CallK.ok|apply ConsBL.ok|apply ConsBK.ok|apply TruthK.ok|apply Test2L.ok|apply Test2K.ok|apply ChainN.ok|apply ChainL.ok|apply ChainK.ok|apply ItemsK.ok|apply ExprK.ok|apply ForK.ok|exact NotK.t|apply OrK.f|apply ChainM.t|apply SeqK.next|apply IfK.f)|exact Q9 rfl|exact (rfl : Qk _ = true)|exact QP rfl|exact (rfl : (_ : Option _) = some _)|decide)
theorem Ee {k : List Int} {l : List (List Int)} {j : Nat} (h : Xd k l = some j) : j < l.length := (List.getElem?_eq_some_iff.mp (UA h)).1
noncomputable def Vo (x : Nat × Nat) : D := .tup [.int x.1, .int x.2]
noncomputable def F4 : Option (Nat × Nat) → D
 | none => .none
 | some x => Vo x
noncomputable def enF (p : Nat) (l : List (List Int)) : List D := ((Qy l).zipIdx p).map fun x => D.tup [.int x.2, x.1]
theorem Ed (p : Nat) (a : List Int) (l : List (List Int)) : enF p (a :: l) = .tup [.int p, .tup (iL a)] :: enF (p + 1) l := by
 unfold enF Qy; rw [List.map_cons, List.zipIdx_cons, List.map_cons]
theorem Vr (a : List Int) : JX (.tup (iL a)) = some a := Ds a
theorem V2 {n : Nat} (h3 : 3 ≤ n) (h12 : n ≤ 12) : Row n (rng n) := ⟨.refl _, h3, h12⟩
noncomputable def VE (K : Frag) (c : Int) (n : Nat) : List Nat := by
 classical exact if h : 3 ≤ n ∧ n ≤ 12 then Classical.choose (JU K c n h.1 h.2) else []
theorem KD (K : Frag) (c : Int) {n : Nat} (h3 : 3 ≤ n) (h12 : n ≤ 12) : Xm K [.int c, .int n] = .ok (.sh (.tup (nD (VE K c n)))) ∧ Change n (VE K c n) := by
 unfold VE
 rw [dif_pos ⟨h3, h12⟩]
 exact Classical.choose_spec (JU K c n h3 h12)
noncomputable def VM (a : List Int) (chs : List (List Nat)) : List Int := chs.foldl rung a
theorem KN (chs : List (List Nat)) : ∀ a, ∃ pre, QN a chs = pre ++ [VM a chs] ∧ pre.length = chs.length := by
 induction chs with
 | nil => intro a; exact ⟨[], rfl, rfl⟩
 | cons c cs ih =>
  intro a
  obtain ⟨pre, h1, h2⟩ := ih (rung a c)
  exact ⟨a :: pre, by rw [QN, h1]; rfl, by rw [List.length_cons, h2, List.length_cons]⟩
theorem Wt {n : Nat} (chs : List (List Nat)) : ∀ {a : List Int}, (∀ c ∈ chs, Change n c) → Row n a → Row n (VM a chs) := by
 induction chs with
 | nil => intro a _ r; exact r
 | cons c cs ih => intro a h r; exact ih (fun x hx => h x (.tail _ hx)) (r.rung (h c (.head _)).ok)
noncomputable def aft (a : List Int) (chs : List (List Nat)) (w : List Nat) : List Int := rung (VM a chs) w
structure Mth (n : Nat) (chs ws : List (List Nat)) : Prop where
 c : Chs n chs
 w : ∀ c ∈ ws, Change n c
 l : ws.length ≤ 4
theorem KM (K : Frag) {n : Nat} {chs ws : List (List Nat)} {c : Nat} (hc : c < ws.length) (h4 : ws.length ≤ 4) : X4 K [mth n chs ws, .int c] = .ok (.sh .none) := by
 have e1 : Xx K [.int (c : Int)] = .ok (.sh (.bool true)) := ZO K _ rfl
 have e2 := XN (ds := chD ws) (by rw [Xu]; omega)
 rw [Xu] at e2
 have e3 := JQ (a := 0) (b := (c : Int)) (by omega)
 have e4 := CT (a := (c : Int)) (b := (ws.length : Int)) (by omega)
 unfold X4 ZV
 refine' Xc [some (.sh (mth n chs ws)), some (.sh (.int c))] rfl rfl ?_ Wp
 unfold mth
 repeat' (first|(with_reducible first|assumption|exact Xa|exact QM|exact QJ|apply QR|exact QS|apply QL|exact QD|apply Qt|exact Kz|exact Qo|exact Qs|exact Q5|exact Qx|apply QK|apply QA|apply Q4|apply Qm|apply QC|apply Q1|apply Xz|apply Zb|apply ZK|apply Qz|apply Xe|apply ZR|apply ValK.ok|apply OpNK.ok|apply CallK.ok|apply ConsBL.ok|apply ConsBK.ok|apply TruthK.ok|apply ChainN.ok|apply ChainL.ok|apply ChainK.ok|exact NotK.t|apply OrK.f|apply ChainM.t|apply SeqK.next|apply IfK.f)|exact Q9 rfl|exact (rfl : Qk _ = true)|exact (rfl : (_ : Option _) = some _)|decide)
theorem D8 {ws : List (List Nat)} {c : Nat} {w : List Nat} (hw : ws[c]? = some w) (h4 : ws.length ≤ 4) : QZ (.list (chD ws)) (.int c) = some (.sh (.tup (nD w))) := by
 have := (List.getElem?_eq_some_iff.mp hw).1
 refine Xw (by omega) (by omega) ?_
 rw [Int.toNat_natCast]
 unfold chD
 rw [List.getElem?_map, hw]; rfl
theorem Cm (K : Frag) {n : Nat} {a : List Int} {chs ws : List (List Nat)} {c : Nat} {w : List Nat} (hm : Mth n chs ws) (ra : Row n a) (hw : ws[c]? = some w) : Zy K [mth n chs ws, .tup (iL a), .int c] = .ok (.sh (.tup (iL (aft a chs w)))) := by
 have l1 := Vp K (ws := ws) ra hm.c
 obtain ⟨pre, p1, p2⟩ := KN chs a
 rw [p1] at l1
 have e1 := J6 (l := pre) (a := VM a chs) (by have := hm.c.len; omega)
 have e2 := KM K (n := n) (chs := chs) (List.getElem?_eq_some_iff.mp hw).1 hm.l
 have e3 := D8 hw hm.l
 have e4 := Ww K (a := VM a chs) (Wt chs hm.c.all ra).len ra.h12 (hm.w w (List.mem_of_getElem? hw)).ok
 have e5 : JC (.int 1) = some (.sh (.int (-1))) := rfl
 unfold aft Zy YQ
 refine' Xc [some (.sh (mth n chs ws)), some (.sh (.tup (iL a))), some (.sh (.int c)), none] rfl rfl ?_ Q3
 unfold mth at *
 repeat' (first|(with_reducible first|assumption|exact Xa|exact QM|exact Yb|exact QJ|apply QR|exact XA|apply XB|exact QS|apply QL|exact QD|apply Qt|exact Kz|exact Qo|exact Qs|apply QK|apply QA|apply Qm|apply QG|apply QC|apply WT|apply Qz|apply QX|apply XU|apply Q0|apply ZR|apply Jz|apply ValK.ok|apply Op1K.ok|apply Op2K.ok|apply Op2L.ok|apply CallK.ok|apply ConsBL.ok|apply ConsBK.ok|apply RetK.ok|apply ExprK.ok|apply AsgK.ok|apply SeqK.next|exact SeqK.ret|apply MtdK.ok)|exact Q9 rfl|exact (rfl : Qk _ = true)|exact (rfl : (_ : Option _) = some _)|decide)
theorem CQ (p r : Nat) : nL (List.range' p (r + 1)) = D.int (p : Nat) :: nL (List.range' (p + 1) r) := rfl
theorem K2 {a b : Nat} (hab : a ≤ b) (hb : b ≤ 1000) : Zr (.range a b 1) = some (nL (List.range' a (b - a))) := by
 have h1 : Builtin.Range.rangeSize (a : Int) (b : Int) 1 = ((b - a : Nat) : Int) := by
  rw [rangeSize_one]; split <;> omega
 have h2 : X9 (a : Int) (b : Int) 1 = true := by
  unfold X9
  rw [small_one (by omega) (by omega) (by omega) (by omega), h1]
  simp only [Bool.true_and, Bool.and_eq_true, decide_eq_true_eq]
  constructor <;> omega
 rw [BM h2]
 unfold Ju U1 nL
 rw [h1, Int.toNat_natCast, List.range'_eq_map_range, List.map_map]
 refine congrArg some (List.map_congr_left fun i _ => ?_)
 show D.int ((a : Int) + (i : Int) * 1) = D.int ((a + i : Nat) : Int)
 rw [Int.mul_one]; rfl
theorem CM (j m : Nat) (hm : m ≠ 0) : Yi (.int (j : Int)) (.int m) = some (.sh (.int ((j % m : Nat) : Int))) := by
 rw [Zm (by omega)]; congr 3; rw [Int.fmod_eq_emod_of_nonneg _ (by omega)]; rfl
theorem Fd (j m : Nat) (hm : m ≠ 0) (hs : m ≤ 1000) : U3 (.int (j : Int)) (.int m) = some (.sh (.int ((j / m : Nat) : Int))) := by
 rw [Y0 (by constructor <;> omega)]; congr 3; rw [Int.fdiv_eq_ediv_of_nonneg _ (by omega)]; rfl
end Mine
end

section
set_option Elab.async false
set_option maxRecDepth 100000
set_option maxHeartbeats 4000000
set_option linter.unusedSimpArgs false
set_option linter.unusedVariables false
namespace Mine
open PySem PySem.W
theorem Vf {a : List Int} : ∀ {ks : List (List Int)}, (Xd a ks).isSome = true ↔ a ∈ ks := by
 intro ks
 constructor
 ·intro h
  obtain ⟨j, hj⟩ := Option.isSome_iff_exists.mp h
  exact List.mem_of_getElem? (UA hj)
 ·intro h
  induction ks with
  | nil => cases h
  | cons x ks ih =>
   show (if x = a then some 0 else (Xd a ks).map (· + 1)).isSome = true
   by_cases hx : x = a
   ·rw [if_pos hx]; rfl
   ·rw [if_neg hx]
    rcases List.mem_cons.mp h with rfl | h
    ·exact absurd rfl hx
    ·rw [Option.isSome_map]; exact ih h
theorem YJ {a : List Int} {ks : List (List Int)} (h : a ∉ ks) : Xd a ks = none := by
 cases hk : Xd a ks with
 | none => rfl
 | some j => exact absurd (Vf.mp (by rw [hk]; rfl)) h
theorem W3 {a : List Int} {ks : List (List Int)} (h : a ∈ ks) : ∃ j, Xd a ks = some j ∧ j < ks.length := by
 obtain ⟨j, hj⟩ := Option.isSome_iff_exists.mp (Vf.mpr h)
 exact ⟨j, hj, Ee hj⟩
theorem UE {a : List Int} {ks : List (List Int)} (h : a ∉ ks) : Bf a ks = ks ++ [a] := by
 conv => lhs; whnf; rw [YJ h]
theorem Ve {a : List Int} {d : D} {ks : List (List Int)} {ds : List D} (h : a ∉ ks) : Bg a d ks ds = ds ++ [d] := by
 conv => lhs; whnf; rw [YJ h]
noncomputable def Y7 (n : Nat) : List D := nL (List.range n)
theorem Ki (n : Nat) : Y7 n ++ [.int (n : Nat)] = Y7 (n + 1) := by unfold Y7 nL; rw [List.range_succ, List.map_append]; rfl
theorem Ot {n j : Nat} (h : j < n) : (Y7 n)[j]? = some (.int (j : Nat)) := by
 unfold Y7 nL; rw [List.getElem?_map, List.getElem?_range h]; rfl
theorem Wc {P r : List (List Int)} {a : List Int} (h : a ∉ P) (hp : P.Nodup) : (P ++ [a]).Nodup := by
 rw [List.nodup_append]
 exact ⟨hp, by simp, fun x hx y hy => by rw [List.mem_singleton.mp hy]; rintro rfl; exact h hx⟩
theorem De {P r : List (List Int)} {a : List Int} (h : a ∈ P) : ¬ (P ++ a :: r).Nodup := fun q => (List.nodup_append.mp q).2.2 a h a (.head _) rfl
noncomputable def tw (x : Option (Nat × Nat)) (ρ : AEnv) : Res Fl := x.elim (.ok .next ρ) fun y => .ok (.ret (.sh (Vo y))) ρ
noncomputable def twF : List (List Int) → List (List Int) → Option (Nat × Nat)
 | _, [] => none
 | P, a :: r => match Xd a P with
  | some j => some (j, P.length)
  | none => twF (P ++ [a]) r
theorem Cp {a : List Int} {P r : List (List Int)} {j : Nat} (h : Xd a P = some j) : twF P (a :: r) = some (j, P.length) := by conv => lhs; whnf; rw [h]
theorem VC {a : List Int} {P r : List (List Int)} (h : Xd a P = none) : twF P (a :: r) = twF (P ++ [a]) r := by conv => lhs; whnf; rw [h]
theorem CU : ∀ (rest P : List (List Int)), P.Nodup → (twF P rest = none ↔ (P ++ rest).Nodup) := by
 intro rest
 induction rest with
 | nil => intro P hp; rw [List.append_nil]; exact ⟨fun _ => hp, fun _ => rfl⟩
 | cons a r ih =>
  intro P hp
  by_cases ha : a ∈ P
  ·obtain ⟨j, hj, _⟩ := W3 ha
   rw [Cp hj]
   exact ⟨fun h => (by cases h), fun h => absurd h (De ha)⟩
  ·rw [VC (YJ ha), ih _ (Wc (r := r) ha hp), List.append_assoc]; exact Iff.rfl
theorem Ce (K : Frag) {x0 : D} : ∀ (rest P : List (List Int)) (v2 v3 : Option T), P.Nodup → P.length + rest.length ≤ 1000 → ∃ ρ,
  ZH (Je [2, 3]) (Qn (sIf (C3 false (eOp 3) 1) (Qn (XZ (UM (QI (Vd 1 (eOp 3)) (QI (XJ 2) Zp)))) QB) QB) (Qn (K4 1 (eOp 3) (XJ 2)) QB)) (enF P.length rest) [some (.sh x0), some (.ow true (.dict P (Y7 P.length))), v2, v3] = tw (twF P rest) ρ := by
 intro rest
 induction rest with
 | nil => intro P v2 v3 hp _; exact ⟨_, rfl⟩
 | cons a r ih =>
  intro P v2 v3 hp hl
  rw [List.length_cons] at hl
  rw [Ed]
  have hrow := Vr a
  have hks : P.length ≤ 1000000 := by omega
  by_cases ha : a ∈ P
  ·obtain ⟨j, hj, hlt⟩ := W3 ha
   have e1 : ((Xd a P).isSome != false) = true := by rw [hj]; rfl
   have e2 := Ot hlt
   rw [Cp hj]
   refine ⟨[some (.sh x0), some (.ow true (.dict P (Y7 P.length))), some (.sh (.int P.length)), some (.sh (.tup (iL a)))], ?_⟩
   show _ = Res.ok (Fl.ret (T.sh (.tup [.int (j : Nat), .int (P.length : Nat)]))) _
   repeat' (first|(with_reducible first|assumption|exact Xa|exact QM|exact QJ|apply QR|exact XA|apply XB|apply QL|exact ZC|apply ZG|exact Xg|exact Qx|apply QK|apply QW|apply XF|apply Qz|apply Xe|apply QX|apply VK|apply KG|apply KJ|apply KH|apply Ky|apply Vt|apply ConsL.ok|apply ConsK.ok|apply TupK.ok|apply RetK.ok|apply SeqK.next|exact SeqK.ret|apply IfK.t|apply IfK.f|apply Zc|apply ForL.next|exact ForL.ret)|exact (rfl : Qk _ = true)|exact QP rfl|exact (rfl : (_ : Option _) = some _)|decide)
  ·have e1 : ((Xd a P).isSome != false) = false := by rw [YJ ha]; rfl
   obtain ⟨ρ, h2⟩ := ih (P ++ [a]) (some (.sh (.int P.length))) (some (.sh (.tup (iL a)))) (Wc (r := r) ha hp) (by rw [List.length_append]; simp; omega)
   rw [VC (YJ ha)]
   refine ⟨ρ, ?_⟩
   rw [show (P ++ [a]).length = P.length + 1 by simp, ← Ki, ← UE ha, ← Ve (ks := P) ha] at h2
   rw [UE ha] at h2
   generalize tw (twF (P ++ [a]) r) ρ = X at h2 ⊢
   rw [← UE ha] at h2
   repeat' (first|(with_reducible first|assumption|exact Xa|exact QM|exact QJ|apply QR|exact XA|apply XB|apply QL|exact ZC|apply ZG|exact Xg|exact Qx|apply QK|apply QW|apply XF|apply Qz|apply Xe|apply QX|apply VK|apply KG|apply KJ|apply KH|apply Ky|apply Vt|apply ConsL.ok|apply ConsK.ok|apply TupK.ok|apply RetK.ok|apply SeqK.next|exact SeqK.ret|apply IfK.t|apply IfK.f|apply Zc|apply ForL.next|exact ForL.ret)|exact (rfl : Qk _ = true)|exact QP rfl|exact (rfl : (_ : Option _) = some _)|decide)
theorem WU (K : Frag) (A : List (List Int)) (hA : A.length ≤ 1000) : Zg K [.list (Qy A)] = .ok (.sh (F4 (twF [] A))) := by
 obtain ⟨ρ, h2⟩ := Ce K (x0 := .list (Qy A)) A [] none none .nil (by simpa using hA)
 have h2 : ZH (Je [2, 3]) _ (JO (Qy A)) [some (.sh (.list (Qy A))), some (.ow true (.dict [] [])), none, none] = tw (twF [] A) ρ := h2
 unfold Zg Ji
 cases hx : twF [] A with
 | some y =>
  rw [hx] at h2
  have h2 : _ = Res.ok (Fl.ret (.sh (Vo y))) ρ := h2
  show _ = FOut.ok (.sh (Vo y))
  refine' Xc [some (.sh (.list (Qy A))), none, none, none] rfl rfl ?_ Q3
  repeat' (first|(with_reducible first|assumption|exact Xa|exact XA|apply XB|exact Qo|apply CJ|apply Qz|apply QX|apply Zl|apply KF|apply RetK.ok|apply ForK.ok|apply EnumK.list Xa|apply EnumK.list Zi|apply SeqK.next|exact SeqK.ret)|exact (rfl : Qk _ = true)|exact QP rfl|exact (rfl : (_ : Option _) = some _)|decide)
 | none =>
  rw [hx] at h2
  have h2 : _ = Res.ok Fl.next ρ := h2
  show _ = FOut.ok (.sh .none)
  refine' Xc [some (.sh (.list (Qy A))), none, none, none] rfl rfl ?_ Q3
  repeat' (first|(with_reducible first|assumption|exact Xa|exact XA|apply XB|exact Qo|apply CJ|apply Qz|apply QX|apply Zl|apply KF|apply RetK.ok|apply ForK.ok|apply EnumK.list Xa|apply EnumK.list Zi|apply SeqK.next|exact SeqK.ret)|exact (rfl : Qk _ = true)|exact QP rfl|exact (rfl : (_ : Option _) = some _)|decide)
theorem EZ {A : List (List Int)} {c : Nat} {a : List Int} (h : A[c]? = some a) (hl : A.length ≤ 1000) : QZ (.list (Qy A)) (.int (c : Int)) = some (.sh (.tup (iL a))) := by
 have hc := (List.getElem?_eq_some_iff.mp h).1
 have hr := XC A
 refine Xw (by omega) (by omega) ?_
 rw [Int.toNat_natCast]
 unfold Qy
 rw [List.getElem?_map, h]; rfl
theorem Bu (K : Frag) {A : List (List Int)} (hA : A.length ≤ 1000) : ∀ (m c : Nat) (v : Option T), c + m = A.length → (A.take c).Nodup → ∃ ρ,
  ZH (Xl 2) (Qn (sIf (C3 false (Qc (Qp QZ (eOp 0) (eOp 2))) 1) (Qn (XZ (UM (QI (Vd 1 (Qc (Qp QZ (eOp 0) (eOp 2)))) (QI (XJ 2) Zp)))) QB) QB) (Qn (K4 1 (Qc (Qp QZ (eOp 0) (eOp 2))) (XJ 2)) QB)) (nL (List.range' c m)) [some (.sh (.list (Qy A))), some (.ow true (.dict (A.take c) (Y7 c))), v] = tw (twF (A.take c) (A.drop c)) ρ := by
 intro m
 induction m with
 | zero => intro c v hc _; rw [show A.drop c = [] from List.drop_of_length_le (by omega)]; exact ⟨_, rfl⟩
 | succ m ih =>
  intro c v hc hp
  have hlt : c < A.length := by omega
  have hg : A[c]? = some A[c] := List.getElem?_eq_getElem hlt
  rw [X8 hg]
  have htk : A.take (c + 1) = A.take c ++ [A[c]] := List.take_succ_eq_append_getElem hlt
  generalize A[c] = a at hg htk
  have e0 := EZ hg hA
  have hrow := Vr a
  have hlen : (A.take c).length = c := by rw [List.length_take]; omega
  have hks : (A.take c).length ≤ 1000000 := by omega
  rw [CQ]
  by_cases ha : a ∈ A.take c
  ·obtain ⟨j, hj, hlt'⟩ := W3 ha
   have e1 : ((Xd a (A.take c)).isSome != false) = true := by rw [hj]; rfl
   have e2 := Ot (n := c) (j := j) (by omega)
   rw [Cp hj, hlen]
   refine ⟨[some (.sh (.list (Qy A))), some (.ow true (.dict (A.take c) (Y7 c))), some (.sh (.int c))], ?_⟩
   show _ = Res.ok (Fl.ret (T.sh (.tup [.int (j : Nat), .int (c : Nat)]))) _
   repeat' (first|(with_reducible first|assumption|exact Xa|exact QM|exact QJ|apply QR|exact XA|apply XB|exact QS|apply QL|exact ZC|apply ZG|exact Xg|exact Qx|apply QK|apply QA|apply QG|apply QW|apply XF|apply Qz|apply Xe|apply QX|apply VK|apply KG|apply KJ|apply KH|apply Ky|apply ValK.ok|apply Op2K.ok|apply Op2L.ok|apply ConsL.ok|apply ConsK.ok|apply TupK.ok|apply RetK.ok|apply SeqK.next|exact SeqK.ret|apply IfK.t|apply IfK.f|apply Zc|apply Z4|apply ForL.next|exact ForL.ret)|exact (rfl : Qk _ = true)|exact QP rfl|exact (rfl : (_ : Option _) = some _)|decide)
  ·have e1 : ((Xd a (A.take c)).isSome != false) = false := by rw [YJ ha]; rfl
   obtain ⟨ρ, h2⟩ := ih (c + 1) (some (.sh (.int c))) (by omega) (by rw [htk]; exact Wc (r := []) ha hp)
   rw [VC (YJ ha), ← htk]
   refine ⟨ρ, ?_⟩
   generalize tw (twF (A.take (c + 1)) (A.drop (c + 1))) ρ = X at h2 ⊢
   rw [htk, ← UE ha, ← Ki, ← Ve (ks := A.take c) (ds := Y7 c) (d := .int (c : Nat)) ha] at h2
   repeat' (first|(with_reducible first|assumption|exact Xa|exact QM|exact QJ|apply QR|exact XA|apply XB|exact QS|apply QL|exact ZC|apply ZG|exact Xg|exact Qx|apply QK|apply QA|apply QG|apply QW|apply XF|apply Qz|apply Xe|apply QX|apply VK|apply KG|apply KJ|apply KH|apply Ky|apply ValK.ok|apply Op2K.ok|apply Op2L.ok|apply ConsL.ok|apply ConsK.ok|apply TupK.ok|apply RetK.ok|apply SeqK.next|exact SeqK.ret|apply IfK.t|apply IfK.f|apply Zc|apply Z4|apply ForL.next|exact ForL.ret)|exact (rfl : Qk _ = true)|exact QP rfl|exact (rfl : (_ : Option _) = some _)|decide)
theorem Ue (K : Frag) (A : List (List Int)) (hA : A.length ≤ 1000) : X0 K [.list (Qy A)] = .ok (.sh (F4 (twF [] A))) := by
 obtain ⟨ρ, h2⟩ := Bu K hA A.length 0 none (by omega) .nil
 have h2 : ZH (Xl 2) _ (nL (List.range' 0 A.length)) [some (.sh (.list (Qy A))), some (.ow true (.dict [] [])), none] = tw (twF [] A) ρ := h2
 have e1 := XN (ds := Qy A) (by rw [XC]; omega)
 rw [XC] at e1
 have e2 : Xp [.int (A.length : Int)] = some (.sh (.range 0 A.length 1)) := rfl
 have e3 : Zr (.range 0 (A.length : Int) 1) = some (nL (List.range' 0 (A.length - 0))) := K2 (a := 0) (Nat.zero_le _) (by omega)
 rw [Nat.sub_zero] at e3
 unfold X0 J8
 cases hx : twF [] A with
 | some y =>
  rw [hx] at h2
  have h2 : _ = Res.ok (Fl.ret (.sh (Vo y))) ρ := h2
  show _ = FOut.ok (.sh (Vo y))
  refine' Xc [some (.sh (.list (Qy A))), none, none] rfl rfl ?_ Q3
  repeat' (first|(with_reducible first|assumption|exact Xa|exact QM|exact QJ|exact XA|apply XB|exact QS|apply QL|exact QD|apply Qt|exact Qo|exact Qs|apply QK|apply QA|apply Q4|apply Qm|apply Xh|apply Qz|apply QX|apply Zl|apply KF|apply ValK.ok|apply OpNK.ok|apply ConsBL.ok|apply ConsBK.ok|apply ItemsK.ok|apply RetK.ok|apply ForK.ok|apply SeqK.next|exact SeqK.ret)|exact (rfl : Qk _ = true)|exact (rfl : (_ : Option _) = some _)|decide)
 | none =>
  rw [hx] at h2
  have h2 : _ = Res.ok Fl.next ρ := h2
  show _ = FOut.ok (.sh .none)
  refine' Xc [some (.sh (.list (Qy A))), none, none] rfl rfl ?_ Q3
  repeat' (first|(with_reducible first|assumption|exact Xa|exact QM|exact QJ|exact XA|apply XB|exact QS|apply QL|exact QD|apply Qt|exact Qo|exact Qs|apply QK|apply QA|apply Q4|apply Qm|apply Xh|apply Qz|apply QX|apply Zl|apply KF|apply ValK.ok|apply OpNK.ok|apply ConsBL.ok|apply ConsBK.ok|apply ItemsK.ok|apply RetK.ok|apply ForK.ok|apply SeqK.next|exact SeqK.ret)|exact (rfl : Qk _ = true)|exact (rfl : (_ : Option _) = some _)|decide)
theorem Ci (K : Frag) {n : Nat} {chs ws : List (List Nat)} (h4 : ws.length ≤ 4) : ZZ K [mth n chs ws] = .ok (.ow true (.list (chD ws))) := by
 have e1 := Yj (ds := chD ws) (by rw [Xu]; omega)
 unfold ZZ YT
 refine' Xc [some (.sh (mth n chs ws))] rfl rfl ?_ Q3
 unfold mth
 repeat' (first|(with_reducible first|assumption|exact Xa|exact QJ|exact QS|exact QD|apply Qt|exact Kz|exact Qs|apply QA|apply Q4|apply Qm|apply Qz|apply QX|apply ZR|apply ValK.ok|apply OpNK.ok|apply ConsBL.ok|apply ConsBK.ok|apply RetK.ok|exact SeqK.ret)|exact (rfl : Qk _ = true)|exact (rfl : (_ : Option _) = some _)|decide)
end Mine
end

section
set_option Elab.async false
set_option maxRecDepth 100000
set_option maxHeartbeats 4000000
set_option linter.unusedSimpArgs false
set_option linter.unusedVariables false
namespace Mine
open PySem PySem.W
noncomputable def ZF (n : Nat) (chs ws : List (List Nat)) : List (List Int) → List Int → List Nat → Bool
 | _, h, [] => eqB h (rng n)
 | ks, h, c :: t => decide (ks ++ QN h chs).Nodup && ZF n chs ws (ks ++ QN h chs) (aft h chs (ws.getD c [])) t
theorem W2 {ws : List (List Nat)} {c : Nat} (h : c < ws.length) : ws[c]? = some (ws.getD c []) := by rw [List.getD_eq_getElem?_getD, List.getElem?_eq_getElem h]; rfl
theorem V1 {n : Nat} {chs ws : List (List Nat)} {h : List Int} {c : Nat} (hm : Mth n chs ws) (r : Row n h) (hc : c < ws.length) : Row n (aft h chs (ws.getD c [])) := (Wt chs hm.c.all r).rung (hm.w _ (List.mem_of_getElem? (W2 hc))).ok
noncomputable def Y5 (k : Nat) : Nat → List (List Nat)
 | 0 => [[]]
 | m + 1 => (List.range k).flatMap fun c => (Y5 k m).map (c :: ·)
theorem DL (k : Nat) (m : Nat) : ∀ x ∈ Y5 k m, x.length = m ∧ ∀ c ∈ x, c < k := by
 induction m with
 | zero => intro x hx; rw [List.mem_singleton.mp hx]; exact ⟨rfl, fun c hc => nomatch hc⟩
 | succ m ih =>
  intro x hx
  obtain ⟨c, hc, hx⟩ := List.mem_flatMap.mp hx
  obtain ⟨y, hy, rfl⟩ := List.mem_map.mp hx
  refine ⟨congrArg (· + 1) (ih y hy).1, fun d hd => ?_⟩
  rcases List.mem_cons.mp hd with rfl | hd
  ·exact List.mem_range.mp hc
  ·exact (ih y hy).2 d hd
noncomputable def U4 (n : Nat) (chs ws : List (List Nat)) : Nat → List Nat → List (List Int) → List Int → Option (List Nat)
 | 0, pre, _, h => if eqB h (rng n) then some pre else none
 | r + 1, pre, ahead, h => open Classical in if (ahead ++ QN h chs).Nodup then (List.range ws.length).findSome? fun c => U4 n chs ws r (pre ++ [c]) (ahead ++ QN h chs) (aft h chs (ws.getD c [])) else none
theorem En {n : Nat} {chs ws : List (List Nat)} (r : Nat) : ∀ (pre : List Nat) (ahead : List (List Int)) (h : List Int), U4 n chs ws r pre ahead h = ((Y5 ws.length r).find? fun t => ZF n chs ws ahead h t).map (pre ++ ·) := by
 induction r with
 | zero =>
  intro pre ahead h
  show (if eqB h (rng n) then some pre else none) = (List.find? (fun t => ZF n chs ws ahead h t) [[]]).map (pre ++ ·)
  rw [List.find?_cons]
  show _ = Option.map _ (match eqB h (rng n) with | true => some [] | false => List.find? _ [])
  cases eqB h (rng n) with
  | true => show some pre = some (pre ++ []); rw [List.append_nil]
  | false => rfl
 | succ r ih =>
  intro pre ahead h
  have hg : ∀ c t, ZF n chs ws ahead h (c :: t) = (decide (ahead ++ QN h chs).Nodup && ZF n chs ws (ahead ++ QN h chs) (aft h chs (ws.getD c [])) t) := fun _ _ => rfl
  by_cases hn : (ahead ++ QN h chs).Nodup
  ·refine (if_pos hn).trans ?_
   have key : ∀ l : List Nat, (l.findSome? fun c => U4 n chs ws r (pre ++ [c]) (ahead ++ QN h chs) (aft h chs (ws.getD c []))) = ((l.flatMap fun c => (Y5 ws.length r).map (c :: ·)).find? fun t => ZF n chs ws ahead h t).map (pre ++ ·) := by
    intro l
    induction l with
    | nil => rfl
    | cons c l ihl =>
     have e : ((Y5 ws.length r).map (c :: ·)).find? (fun t => ZF n chs ws ahead h t) = ((Y5 ws.length r).find? fun t => ZF n chs ws (ahead ++ QN h chs) (aft h chs (ws.getD c [])) t).map (c :: ·) := by
      rw [List.find?_map]
      congr 2
      funext t
      show ZF n chs ws ahead h (c :: t) = _
      rw [hg, decide_eq_true hn, Bool.true_and]
     rw [List.findSome?_cons, List.flatMap_cons, List.find?_append, ih, ihl, e]
     cases (Y5 ws.length r).find? fun t => ZF n chs ws (ahead ++ QN h chs) (aft h chs (ws.getD c [])) t with
     | none => rfl
     | some t => show some (pre ++ [c] ++ t) = some (pre ++ (c :: t)); rw [List.append_assoc]; rfl
   exact key _
  ·refine (if_neg hn).trans ?_
   have : (Y5 ws.length (r + 1)).find? (fun t => ZF n chs ws ahead h t) = none := by
    rw [List.find?_eq_none]
    intro x hx
    obtain ⟨c, _, hx⟩ := List.mem_flatMap.mp hx
    obtain ⟨y, _, rfl⟩ := List.mem_map.mp hx
    show ¬ ZF n chs ws ahead h (c :: y) = true
    rw [hg, decide_eq_false hn, Bool.false_and]; decide
   rw [this]; rfl
theorem Zq : PyData.strOk "touch" = true := by decide +kernel
theorem KK : PyData.strOk "none" = true := by decide +kernel
theorem JA {a b : Str} {c : Bool} (ha : PyData.strOk a = true) (hb : PyData.strOk b = true) (h : (a == b) = c) : eqI (.str a) (.str b) = some (.sh (.bool c)) :=
 WS (Ua rfl rfl (Bool.and_eq_true_iff.mpr ⟨ha, rfl⟩) (Bool.and_eq_true_iff.mpr ⟨hb, rfl⟩) h)
noncomputable def Tag (s : Str) : Prop := eqI (.str s) (.str "touch") = some (.sh (.bool false))
theorem DM : Tag "away" := JA (by decide +kernel) Zq (by decide +kernel)
theorem Dx : Tag "clash" := JA (by decide +kernel) Zq (by decide +kernel)
theorem ER : Tag "ask" := JA (by decide +kernel) Zq (by decide +kernel)
noncomputable def Z7 (t : List Nat) : D := .tup [.str "touch", .list (nD t)]
theorem EM (t : List Nat) (c : Nat) : nD t ++ [.int (c : Nat)] = nD (t ++ [c]) := by unfold nD; rw [List.map_append]; rfl
theorem Zf (t : List Nat) : (nD t).length = t.length := by unfold nD; rw [List.length_map]
end Mine
end

section
set_option Elab.async false
set_option maxRecDepth 100000
set_option maxHeartbeats 4000000
set_option linter.unusedSimpArgs false
set_option linter.unusedVariables false
namespace Mine
open PySem PySem.W
noncomputable def Ke (n : Nat) (chs ws : List (List Nat)) : Nat → List (List Int) → List Int → D → Prop
 | 0, _, h, d => eqB h (rng n) = false ∧ d = .tup [.str "away"]
 | r + 1, ahead, h, d => (∃ y : Nat × Nat, twF [] (ahead ++ QN h chs) = some y ∧ d = .tup [.str "clash", .int (y.1 : Nat), .int (y.2 : Nat)]) ∨
   (twF [] (ahead ++ QN h chs) = none ∧ ∃ ds : List D, d = .tup [.str "ask", .tup ds] ∧ ds.length = ws.length ∧ ∀ (c : Nat) (x : D), ds[c]? = some x → Ke n chs ws r (ahead ++ QN h chs) (aft h chs (ws.getD c [])) x)
theorem Ov {n : Nat} {chs ws : List (List Nat)} {r : Nat} {ahead : List (List Int)} {h : List Int} {d : D} (q : Ke n chs ws r ahead h d) : ∃ s l, d = .tup (.str s :: l) ∧ Tag s := by
 cases r with
 | zero => exact ⟨_, _, q.2, DM⟩
 | succ r =>
  rcases q with ⟨y, _, e⟩ | ⟨_, ds, e, _⟩
  ·exact ⟨_, _, e, Dx⟩
  ·exact ⟨_, _, e, ER⟩
noncomputable def Ct (n : Nat) (chs ws : List (List Nat)) (r : Nat) (ahead : List (List Int)) (h : List Int) (o : Option (List Nat)) (d : D) : Prop := (∀ t, o = some t → d = Z7 t) ∧ (o = none → Ke n chs ws r ahead h d)
theorem Ew {trees : List D} {t x : D} {c : Nat} (h : (trees ++ [t])[c]? = some x) : trees[c]? = some x ∨ (c = trees.length ∧ x = t) := by
 by_cases hc : c < trees.length
 ·rw [List.getElem?_append_left hc] at h; exact .inl h
 ·rw [List.getElem?_append_right (by omega)] at h
  have : c - trees.length = 0 := by
   cases q : c - trees.length with
   | zero => rfl
   | succ k => rw [q] at h; cases h
  rw [this] at h
  cases h
  exact .inr ⟨by omega, rfl⟩
theorem Cw (K : Frag) {n r many : Nat} {chs ws : List (List Nat)} {pre : List Nat} {rows : List (List Int)} {h : List Int} {x3 x6 : Option T} {R : List D → FOut} (hm : Mth n chs ws) (rh : Row n h) (hp : pre.length ≤ 12)
    (hR : ∀ c, c < ws.length → ∃ d, R [mth n chs ws, .int many, .list (nD (pre ++ [c])), .list (Qy rows), .tup (iL (aft h chs (ws.getD c [])))] = .ok (.sh d) ∧ Ct n chs ws r rows (aft h chs (ws.getD c [])) (U4 n chs ws r (pre ++ [c]) rows (aft h chs (ws.getD c []))) d) :
    ∀ (m c : Nat) (trees : List D) (v8 v9 : Option T), c + m = ws.length → trees.length = c → (∀ (j : Nat) (x : D), trees[j]? = some x → Ke n chs ws r rows (aft h chs (ws.getD j [])) x) → ∃ q,
      ZH (Xl 8) (Qn (Qw 9 (QF R (Qa (Qc (XJ 0)) (Qa (Qc (XJ 1)) (Qa (Qc (Qp Xk (eOp 2) (Qc (YB (QI (XJ 8) Zp))))) (Qa (Qc (XJ 5)) (Qa (Qc (Ow 233 "after" 0 (Zy K) (Qa (eOp 4) (Qa (eOp 8) Qj)))) Qj))))))) (Qn (sIf (Xj eqI (Qc (Qp QZ (eOp 9) (Qc (Qd (.int 0))))) (Qc (Qd (.str "touch")))) (Qn (Ym 9) QB) QB) (Qn (ZN (Qc (ZT 7 (XJ 9)))) QB))) (nL (List.range' c m)) [some (.sh (mth n chs ws)), some (.sh (.int many)), some (.sh (.list (nD pre))), x3, some (.sh (.tup (iL h))), some (.sh (.list (Qy rows))), x6, some (.ow true (.list trees)), v8, v9] = q ∧
      ((∀ t, ((List.range' c m).findSome? fun c => U4 n chs ws r (pre ++ [c]) rows (aft h chs (ws.getD c []))) = some t → ∃ ρ, q = .ok (.ret (.sh (Z7 t))) ρ) ∧
       (((List.range' c m).findSome? fun c => U4 n chs ws r (pre ++ [c]) rows (aft h chs (ws.getD c []))) = none → ∃ trees' v8' v9', trees'.length = ws.length ∧ (∀ (j : Nat) (x : D), trees'[j]? = some x → Ke n chs ws r rows (aft h chs (ws.getD j [])) x) ∧ q = .ok .next [some (.sh (mth n chs ws)), some (.sh (.int many)), some (.sh (.list (nD pre))), x3, some (.sh (.tup (iL h))), some (.sh (.list (Qy rows))), x6, some (.ow true (.list trees')), v8', v9'])) := by
  intro m
  induction m with
  | zero =>
    intro c trees v8 v9 hc ht hg
    exact ⟨_, rfl, fun t h => (by cases h), fun _ => ⟨trees, v8, v9, by omega, hg, rfl⟩⟩
  | succ m ih =>
    intro c trees v8 v9 hc ht hg
    have h4 := hm.l
    obtain ⟨d, e1, e2⟩ := hR c (by omega)
    have e3 := Cm K hm rh (W2 (c := c) (by omega))
    have e4 : Xk (.list (nD pre)) (.list [.int (c : Nat)]) = some (.ow true (.list (nD (pre ++ [c])))) := by
      rw [Uc (by rw [Zf]; simp; omega), EM]
    have e5 : trees.length ≤ 1000000 := by omega
    rw [CQ, List.range'_succ, List.findSome?_cons]
    cases hd : U4 n chs ws r (pre ++ [c]) rows (aft h chs (ws.getD c [])) with
    | some t =>
      obtain rfl := e2.1 t hd
      have e6 := JA (a := "touch") (b := "touch") (c := true) Zq Zq (by decide +kernel)
      refine ⟨.ok (.ret (.sh (Z7 t))) [some (.sh (mth n chs ws)), some (.sh (.int many)), some (.sh (.list (nD pre))), x3, some (.sh (.tup (iL h))), some (.sh (.list (Qy rows))), x6, some (.ow true (.list trees)), some (.sh (.int c)), some (.sh (Z7 t))], ?_, fun t' h => (by cases h; exact ⟨_, rfl⟩), fun h => (by cases h)⟩
      unfold mth Z7 at *
      repeat' (first|(with_reducible first|assumption|exact Xa|exact Zi|exact QM|exact QJ|apply QR|exact XA|apply XB|exact QS|apply QL|exact QD|apply Qt|apply Jj|exact ZC|apply ZG|exact Qo|exact Qs|exact Xg|exact Qx|apply QK|apply QA|apply Qm|apply QG|apply QC|apply QW|apply QE|apply Xy|apply Zz|apply Qz|apply Xe|apply XU|apply Q0|apply Jz|apply ValK.ok|apply Op2K.ok|apply Op2L.ok|apply CallK.ok|apply ConsBL.ok|apply ConsBK.ok|apply ConsL.ok|apply ConsK.ok|apply LstK.ok|apply Test2L.ok|apply Test2K.ok|apply ExprK.ok|apply AsgK.ok|apply SeqK.next|exact SeqK.ret|apply IfK.t|apply IfK.f|apply Zc|apply Z4|apply ForL.next|exact ForL.ret|exact ix0|apply MtdK.ok)|exact Q9 rfl|exact (rfl : Qk _ = true)|exact QP rfl|exact Ux rfl|exact (rfl : (_ : Option _) = some _)|decide)
    | none =>
      have hG := e2.2 hd
      obtain ⟨s, l, rfl, ht'⟩ := Ov hG
      unfold Tag at ht'
      obtain ⟨q, h1, h2⟩ := ih (c + 1) (trees ++ [.tup (.str s :: l)]) (some (.sh (.int c))) (some (.sh (.tup (.str s :: l)))) (by omega) (by rw [List.length_append, ht]; rfl) (fun j x hj => by
        rcases Ew hj with hj | ⟨rfl, rfl⟩
        · exact hg j x hj
        · rw [ht]; exact hG)
      refine ⟨q, ?_, h2⟩
      clear h2
      unfold mth at *
      repeat' (first|(with_reducible first|assumption|exact Xa|exact Zi|exact QM|exact QJ|apply QR|exact XA|apply XB|exact QS|apply QL|exact QD|apply Qt|apply Jj|exact ZC|apply ZG|exact Qo|exact Qs|exact Xg|exact Qx|apply QK|apply QA|apply Qm|apply QG|apply QC|apply QW|apply QE|apply Xy|apply Zz|apply Qz|apply Xe|apply XU|apply Q0|apply Jz|apply ValK.ok|apply Op2K.ok|apply Op2L.ok|apply CallK.ok|apply ConsBL.ok|apply ConsBK.ok|apply ConsL.ok|apply ConsK.ok|apply LstK.ok|apply Test2L.ok|apply Test2K.ok|apply ExprK.ok|apply AsgK.ok|apply SeqK.next|exact SeqK.ret|apply IfK.t|apply IfK.f|apply Zc|apply Z4|apply ForL.next|exact ForL.ret|exact ix0|apply MtdK.ok)|exact Q9 rfl|exact (rfl : Qk _ = true)|exact QP rfl|exact Ux rfl|exact (rfl : (_ : Option _) = some _)|decide)
theorem Cj (K : Frag) {n many : Nat} {chs ws : List (List Nat)} (hm : Mth n chs ws) (hmany : many ≤ 12) : ∀ (r d : Nat) (pre : List Nat) (ahead : List (List Int)) (h : List Int), r < d → pre.length + r = many → ahead.length ≤ pre.length * 31 → Row n h →
  ∃ x, Yx K d [mth n chs ws, .int many, .list (nD pre), .list (Qy ahead), .tup (iL h)] = .ok (.sh x) ∧ Ct n chs ws r ahead h (U4 n chs ws r pre ahead h) x := by
 intro r
 induction r with
 | zero =>
  intro d pre ahead h hd hp ha rh
  obtain ⟨d, rfl⟩ : ∃ m, d = m + 1 := ⟨d - 1, by omega⟩
  have e1 := XN (ds := nD pre) (by rw [Zf]; omega)
  rw [Zf] at e1
  have e2 : eqI (.int (pre.length : Int)) (.int (many : Int)) = some (.sh (.bool true)) := by rw [← hp]; exact CR _
  have e3 := Kh K n hm.c.h3 hm.c.h12
  have e4 := CW h (rng n)
  have e5 : U4 n chs ws 0 pre ahead h = if eqB h (rng n) then some pre else none := rfl
  rw [e5]
  show ∃ x, ZL 10 [0, 1, 2, 3, 4] (UC K (Yx K d)) _ = _ ∧ _
  unfold UC
  cases hb : eqB h (rng n) with
  | true =>
   rw [hb] at e4
   refine ⟨Z7 pre, ?_, fun t h => (by cases h; rfl), fun h => (by cases h)⟩
   refine' Xc [some (.sh (mth n chs ws)), some (.sh (.int many)), some (.sh (.list (nD pre))), some (.sh (.list (Qy ahead))), some (.sh (.tup (iL h))), none, none, none, none, none] rfl rfl ?_ Q3
   unfold mth Z7 at *
   repeat' (first|(with_reducible first|assumption|exact Xa|exact Zi|exact QM|exact Yb|exact QJ|apply QR|exact XA|apply XB|exact QS|apply QL|exact QD|apply Qt|exact ZC|apply ZG|exact J9|exact Qo|exact Qs|exact Xg|exact Qx|apply QK|apply QA|apply Q4|apply Qm|apply QG|apply QC|apply QW|apply QE|apply XF|apply Xy|apply Xh|apply Qz|apply Xe|apply QX|apply Q0|apply Zl|apply ZR|apply Jz|apply ValK.ok|apply Op2K.ok|apply Op2L.ok|apply OpNK.ok|apply CallK.ok|apply ConsBL.ok|apply ConsBK.ok|apply ConsL.ok|apply ConsK.ok|apply TupK.ok|apply LstK.ok|apply Test2L.ok|apply Test2K.ok|apply ItemsK.ok|apply RetK.ok|apply AsgK.ok|apply ForK.ok|apply SeqK.next|exact SeqK.ret|apply IfK.t|apply IfK.f|exact ix0|exact ix1|apply MtdK.ok)|exact Q9 rfl|exact (rfl : Qk _ = true)|exact QP rfl|apply U8 rfl|exact (rfl : (_ : Option _) = some _)|decide)
  | false =>
   rw [hb] at e4
   refine ⟨.tup [.str "away"], ?_, fun t h => (by cases h), fun _ => ⟨hb, rfl⟩⟩
   refine' Xc [some (.sh (mth n chs ws)), some (.sh (.int many)), some (.sh (.list (nD pre))), some (.sh (.list (Qy ahead))), some (.sh (.tup (iL h))), none, none, none, none, none] rfl rfl ?_ Q3
   unfold mth at *
   repeat' (first|(with_reducible first|assumption|exact Xa|exact Zi|exact QM|exact Yb|exact QJ|apply QR|exact XA|apply XB|exact QS|apply QL|exact QD|apply Qt|exact ZC|apply ZG|exact J9|exact Qo|exact Qs|exact Xg|exact Qx|apply QK|apply QA|apply Q4|apply Qm|apply QG|apply QC|apply QW|apply QE|apply XF|apply Xy|apply Xh|apply Qz|apply Xe|apply QX|apply Q0|apply Zl|apply ZR|apply Jz|apply ValK.ok|apply Op2K.ok|apply Op2L.ok|apply OpNK.ok|apply CallK.ok|apply ConsBL.ok|apply ConsBK.ok|apply ConsL.ok|apply ConsK.ok|apply TupK.ok|apply LstK.ok|apply Test2L.ok|apply Test2K.ok|apply ItemsK.ok|apply RetK.ok|apply AsgK.ok|apply ForK.ok|apply SeqK.next|exact SeqK.ret|apply IfK.t|apply IfK.f|exact ix0|exact ix1|apply MtdK.ok)|exact Q9 rfl|exact (rfl : Qk _ = true)|exact QP rfl|apply U8 rfl|exact (rfl : (_ : Option _) = some _)|decide)
 | succ r ih =>
  intro d pre ahead h hd hp ha rh
  obtain ⟨d, rfl⟩ : ∃ m, d = m + 1 := ⟨d - 1, by omega⟩
  have hcl := hm.c.len
  have h4 := hm.l
  have hll := Uw chs h
  have e1 := XN (ds := nD pre) (by rw [Zf]; omega)
  rw [Zf] at e1
  have e2 := CZ (a := (pre.length : Int)) (b := (many : Int)) (by omega)
  have e3 := Vp K (ws := ws) rh hm.c
  have hal : (ahead ++ QN h chs).length ≤ pre.length * 31 + 31 := by rw [List.length_append]; omega
  have e4 : Xk (.list (Qy ahead)) (.list (Qy (QN h chs))) = some (.ow true (.list (Qy (ahead ++ QN h chs)))) := by
   rw [Uc (by rw [XC, XC]; omega)]; unfold Qy; rw [List.map_append]
  have e6 := WU K (ahead ++ QN h chs) (by omega)
  have e5 := CU (ahead ++ QN h chs) [] .nil
  rw [List.nil_append] at e5
  have e7 := Ci K (n := n) (chs := chs) h4
  have e8 := XN (ds := chD ws) (by rw [Xu]; omega)
  rw [Xu] at e8
  have e9 : Xp [.int (ws.length : Int)] = some (.sh (.range 0 ws.length 1)) := rfl
  have e10 : Zr (.range 0 (ws.length : Int) 1) = some (nL (List.range' 0 (ws.length - 0))) := K2 (a := 0) (Nat.zero_le _) (by omega)
  rw [Nat.sub_zero] at e10
  show ∃ x, ZL 10 [0, 1, 2, 3, 4] (UC K (Yx K d)) _ = _ ∧ _
  unfold UC
  by_cases hn : (ahead ++ QN h chs).Nodup
  ·have hw := e5.mpr hn
   rw [hw] at e6
   have e11 : J5 .none .none = some (.sh (.bool false)) := rfl
   have hR : ∀ c, c < ws.length → ∃ x, Yx K d [mth n chs ws, .int many, .list (nD (pre ++ [c])), .list (Qy (ahead ++ QN h chs)), .tup (iL (aft h chs (ws.getD c [])))] = .ok (.sh x) ∧ Ct n chs ws r (ahead ++ QN h chs) (aft h chs (ws.getD c [])) (U4 n chs ws r (pre ++ [c]) (ahead ++ QN h chs) (aft h chs (ws.getD c []))) x := fun c hc => by
    refine ih d (pre ++ [c]) (ahead ++ QN h chs) (aft h chs (ws.getD c [])) (by omega) (by rw [List.length_append]; simp; omega) ?_ (V1 hm rh hc)
    rw [List.length_append (as := pre)]; simp only [List.length_cons, List.length_nil]; omega
   obtain ⟨q, l1, l2, l3⟩ := Cw K (x3 := some (.sh (.list (Qy ahead)))) (x6 := some (.sh .none)) hm rh (by omega) hR ws.length 0 [] none none (by omega) rfl (fun j x hj => by cases hj)
   have e12 : U4 n chs ws (r + 1) pre ahead h = (List.range' 0 ws.length).findSome? fun c => U4 n chs ws r (pre ++ [c]) (ahead ++ QN h chs) (aft h chs (ws.getD c [])) := by
    rw [← List.range_eq_range']; exact if_pos hn
   rw [e12]
   have e6 : Zg K [.list (Qy (ahead ++ QN h chs))] = .ok (.sh .none) := e6
   cases hf : (List.range' 0 ws.length).findSome? fun c => U4 n chs ws r (pre ++ [c]) (ahead ++ QN h chs) (aft h chs (ws.getD c [])) with
   | some t =>
    obtain ⟨ρ, rfl⟩ := l2 t hf
    refine ⟨Z7 t, ?_, fun t' h => (by cases h; rfl), fun h => (by cases h)⟩
    refine' Xc [some (.sh (mth n chs ws)), some (.sh (.int many)), some (.sh (.list (nD pre))), some (.sh (.list (Qy ahead))), some (.sh (.tup (iL h))), none, none, none, none, none] rfl rfl ?_ Q3
    unfold mth at *
    repeat' (first|(with_reducible first|assumption|exact Xa|exact Zi|exact QM|exact Yb|exact QJ|apply QR|exact XA|apply XB|exact QS|apply QL|exact QD|apply Qt|exact ZC|apply ZG|exact J9|exact Qo|exact Qs|exact Xg|exact Qx|apply QK|apply QA|apply Q4|apply Qm|apply QG|apply QC|apply QW|apply QE|apply XF|apply Xy|apply Xh|apply Qz|apply Xe|apply QX|apply Q0|apply Zl|apply ZR|apply Jz|apply ValK.ok|apply Op2K.ok|apply Op2L.ok|apply OpNK.ok|apply CallK.ok|apply ConsBL.ok|apply ConsBK.ok|apply ConsL.ok|apply ConsK.ok|apply TupK.ok|apply LstK.ok|apply Test2L.ok|apply Test2K.ok|apply ItemsK.ok|apply RetK.ok|apply AsgK.ok|apply ForK.ok|apply SeqK.next|exact SeqK.ret|apply IfK.t|apply IfK.f|exact ix0|exact ix1|apply MtdK.ok)|exact Q9 rfl|exact (rfl : Qk _ = true)|exact QP rfl|apply U8 rfl|exact (rfl : (_ : Option _) = some _)|decide)
   | none =>
    obtain ⟨trees, v8, v9, htl, htg, rfl⟩ := l3 hf
    have e13 := YM (ds := trees) (by omega)
    refine ⟨.tup [.str "ask", .tup trees], ?_, fun t h => (by cases h), fun _ => .inr ⟨hw, trees, rfl, htl, htg⟩⟩
    refine' Xc [some (.sh (mth n chs ws)), some (.sh (.int many)), some (.sh (.list (nD pre))), some (.sh (.list (Qy ahead))), some (.sh (.tup (iL h))), none, none, none, none, none] rfl rfl ?_ Q3
    unfold mth at *
    repeat' (first|(with_reducible first|assumption|exact Xa|exact Zi|exact QM|exact Yb|exact QJ|apply QR|exact XA|apply XB|exact QS|apply QL|exact QD|apply Qt|exact ZC|apply ZG|exact J9|exact Qo|exact Qs|exact Xg|exact Qx|apply QK|apply QA|apply Q4|apply Qm|apply QG|apply QC|apply QW|apply QE|apply XF|apply Xy|apply Xh|apply Qz|apply Xe|apply QX|apply Q0|apply Zl|apply ZR|apply Jz|apply ValK.ok|apply Op2K.ok|apply Op2L.ok|apply OpNK.ok|apply CallK.ok|apply ConsBL.ok|apply ConsBK.ok|apply ConsL.ok|apply ConsK.ok|apply TupK.ok|apply LstK.ok|apply Test2L.ok|apply Test2K.ok|apply ItemsK.ok|apply RetK.ok|apply AsgK.ok|apply ForK.ok|apply SeqK.next|exact SeqK.ret|apply IfK.t|apply IfK.f|exact ix0|exact ix1|apply MtdK.ok)|exact Q9 rfl|exact (rfl : Qk _ = true)|exact QP rfl|apply U8 rfl|exact (rfl : (_ : Option _) = some _)|decide)
  ·have e12 : U4 n chs ws (r + 1) pre ahead h = none := if_neg hn
   rw [e12]
   cases hy : twF [] (ahead ++ QN h chs) with
   | none => exact absurd (e5.mp hy) hn
   | some y =>
    rw [hy] at e6
    have e6 : Zg K [.list (Qy (ahead ++ QN h chs))] = .ok (.sh (.tup [.int (y.1 : Nat), .int (y.2 : Nat)])) := e6
    have e11 : J5 (.tup [.int (y.1 : Nat), .int (y.2 : Nat)]) .none = some (.sh (.bool true)) := rfl
    refine ⟨.tup [.str "clash", .int (y.1 : Nat), .int (y.2 : Nat)], ?_, fun t h => (by cases h), fun _ => .inl ⟨y, hy, rfl⟩⟩
    refine' Xc [some (.sh (mth n chs ws)), some (.sh (.int many)), some (.sh (.list (nD pre))), some (.sh (.list (Qy ahead))), some (.sh (.tup (iL h))), none, none, none, none, none] rfl rfl ?_ Q3
    unfold mth at *
    repeat' (first|(with_reducible first|assumption|exact Xa|exact Zi|exact QM|exact Yb|exact QJ|apply QR|exact XA|apply XB|exact QS|apply QL|exact QD|apply Qt|exact ZC|apply ZG|exact J9|exact Qo|exact Qs|exact Xg|exact Qx|apply QK|apply QA|apply Q4|apply Qm|apply QG|apply QC|apply QW|apply QE|apply XF|apply Xy|apply Xh|apply Qz|apply Xe|apply QX|apply Q0|apply Zl|apply ZR|apply Jz|apply ValK.ok|apply Op2K.ok|apply Op2L.ok|apply OpNK.ok|apply CallK.ok|apply ConsBL.ok|apply ConsBK.ok|apply ConsL.ok|apply ConsK.ok|apply TupK.ok|apply LstK.ok|apply Test2L.ok|apply Test2K.ok|apply ItemsK.ok|apply RetK.ok|apply AsgK.ok|apply ForK.ok|apply SeqK.next|exact SeqK.ret|apply IfK.t|apply IfK.f|exact ix0|exact ix1|apply MtdK.ok)|exact Q9 rfl|exact (rfl : Qk _ = true)|exact QP rfl|apply U8 rfl|exact (rfl : (_ : Option _) = some _)|decide)
theorem OP (K : Frag) {n m : Nat} {chs ws : List (List Nat)} (hm : Mth n chs ws) (h1 : 1 ≤ m) (h12 : m ≤ 12) : ∃ x, Zx K [mth n chs ws, .int m] = .ok (.sh x) ∧ (∀ t, ((Y5 ws.length m).find? fun t => ZF n chs ws [] (rng n) t) = some t → x = Z7 t) ∧ (((Y5 ws.length m).find? fun t => ZF n chs ws [] (rng n) t) = none → ∃ d, x = .tup [.str "none", d] ∧ Ke n chs ws m [] (rng n) d) := by
 obtain ⟨x, g1, g2, g3⟩ := Cj K hm h12 m 14 [] [] (rng n) (by omega) (by simp) (by simp) (V2 hm.c.h3 hm.c.h12)
 have g1 : Yx K 14 [mth n chs ws, .int m, .list [], .list [], .tup (iL (rng n))] = .ok (.sh x) := g1
 have e0 : U4 n chs ws m [] [] (rng n) = (Y5 ws.length m).find? fun t => ZF n chs ws [] (rng n) t := by
  rw [En]
  cases (Y5 ws.length m).find? fun t => ZF n chs ws [] (rng n) t <;> rfl
 rw [e0] at g2 g3
 have e1 : Xx K [.int (m : Int)] = .ok (.sh (.bool true)) := ZO K _ rfl
 have e2 := JQ (a := 1) (b := (m : Int)) (by omega)
 have e3 := JQ (a := (m : Int)) (b := 12) (by omega)
 have e4 := Kh K n hm.c.h3 hm.c.h12
 unfold Zx Wg
 cases hf : (Y5 ws.length m).find? fun t => ZF n chs ws [] (rng n) t with
 | some t =>
  obtain rfl := g2 t hf
  have e6 := JA (a := "touch") (b := "touch") (c := true) Zq Zq (by decide +kernel)
  refine ⟨Z7 t, ?_, fun t' h => (by cases h; rfl), fun h => (by cases h)⟩
  refine' Xc [some (.sh (mth n chs ws)), some (.sh (.int m)), none] rfl rfl ?_ Q3
  unfold mth Z7 at *
  repeat' (first|(with_reducible first|assumption|exact Xa|exact Zi|exact QM|exact QJ|apply QR|exact XA|apply XB|exact QS|apply QL|exact QD|apply Qt|exact ZC|apply ZG|exact J9|exact Qo|exact Qs|exact Xg|exact Q5|exact Qx|apply QK|apply QA|apply Qm|apply QG|apply QC|apply QW|apply Q1|apply QE|apply Xz|apply Zb|apply ZK|apply XF|apply Xy|apply Qz|apply Xe|apply QX|apply Q0|apply ZR|apply ValK.ok|apply Op2K.ok|apply Op2L.ok|apply CallK.ok|apply ConsBL.ok|apply ConsBK.ok|apply ConsL.ok|apply ConsK.ok|apply TupK.ok|apply LstK.ok|apply TruthK.ok|apply Test2L.ok|apply Test2K.ok|apply ChainN.ok|apply ChainL.ok|apply ChainK.ok|apply RetK.ok|apply AsgK.ok|exact NotK.t|apply OrK.f|apply ChainM.t|apply SeqK.next|exact SeqK.ret|apply IfK.t|apply IfK.f|exact ix0)|exact Q9 rfl|exact (rfl : Qk _ = true)|exact QP rfl|exact Ux rfl|exact (rfl : (_ : Option _) = some _)|decide)
 | none =>
  have hG := g3 hf
  obtain ⟨s, l, rfl, ht⟩ := Ov hG
  unfold Tag at ht
  refine ⟨.tup [.str "none", .tup (.str s :: l)], ?_, fun t h => (by cases h), fun _ => ⟨_, rfl, hG⟩⟩
  refine' Xc [some (.sh (mth n chs ws)), some (.sh (.int m)), none] rfl rfl ?_ Q3
  unfold mth at *
  repeat' (first|(with_reducible first|assumption|exact Xa|exact Zi|exact QM|exact QJ|apply QR|exact XA|apply XB|exact QS|apply QL|exact QD|apply Qt|exact ZC|apply ZG|exact J9|exact Qo|exact Qs|exact Xg|exact Q5|exact Qx|apply QK|apply QA|apply Qm|apply QG|apply QC|apply QW|apply Q1|apply QE|apply Xz|apply Zb|apply ZK|apply XF|apply Xy|apply Qz|apply Xe|apply QX|apply Q0|apply ZR|apply ValK.ok|apply Op2K.ok|apply Op2L.ok|apply CallK.ok|apply ConsBL.ok|apply ConsBK.ok|apply ConsL.ok|apply ConsK.ok|apply TupK.ok|apply LstK.ok|apply TruthK.ok|apply Test2L.ok|apply Test2K.ok|apply ChainN.ok|apply ChainL.ok|apply ChainK.ok|apply RetK.ok|apply AsgK.ok|exact NotK.t|apply OrK.f|apply ChainM.t|apply SeqK.next|exact SeqK.ret|apply IfK.t|apply IfK.f|exact ix0)|exact Q9 rfl|exact (rfl : Qk _ = true)|exact QP rfl|exact Ux rfl|exact (rfl : (_ : Option _) = some _)|decide)
end Mine
end

section
set_option Elab.async false
set_option maxRecDepth 100000
set_option maxHeartbeats 4000000
set_option linter.unusedSimpArgs false
set_option linter.unusedVariables false
namespace Mine
open PySem PySem.W
noncomputable def Cf (chs ws : List (List Nat)) : List Int → List Nat → List Int
 | h, [] => h
 | h, c :: t => Cf chs ws (aft h chs (ws.getD c [])) t
noncomputable def JV (chs ws : List (List Nat)) : List Int → List Nat → List (List Int)
 | _, [] => []
 | h, c :: t => QN h chs ++ JV chs ws (aft h chs (ws.getD c [])) t
theorem Db {n : Nat} {chs ws : List (List Nat)} (t : List Nat) : ∀ (P : List (List Int)) (h : List Int), P.Nodup → ZF n chs ws P h t = true → (P ++ JV chs ws h t).Nodup ∧ Cf chs ws h t = rng n := by
 induction t with
 | nil => intro P h hp hg; rw [show JV chs ws h [] = [] from rfl, List.append_nil]; exact ⟨hp, OG.mp hg⟩
 | cons c t ih =>
  intro P h hp hg
  obtain ⟨h1, h2⟩ := Bool.and_eq_true_iff.mp (show (decide (P ++ QN h chs).Nodup && ZF n chs ws (P ++ QN h chs) (aft h chs (ws.getD c [])) t) = true from hg)
  obtain ⟨q1, q2⟩ := ih _ _ (of_decide_eq_true h1) h2
  rw [List.append_assoc] at q1
  exact ⟨q1, q2⟩
theorem B6 (K : Frag) {n : Nat} {chs ws : List (List Nat)} {x3 x4 : Option T} (hm : Mth n chs ws) : ∀ (t : List Nat) (P : List (List Int)) (h : List Int) (v7 v8 : Option T), (∀ c ∈ t, c < ws.length) → Row n h → P.length + t.length * 31 ≤ 900 →
  ∃ y7 y8, ZH (Xl 7) (Qn (sIf (eOr (Zj (Xi (Qc (QQ (QV K) (Qa (eOp 7) (Qa (Qc (Qd (.glob (.type "int")))) Qj)))))) (eOr (Xi (Qc (QQ (QV K) (Qa (eOp 7) (Qa (Qc (Qd (.glob (.type "bool")))) Qj))))) (eOr (Zj (ZU leI ltI (Qc (Qd (.int 0))) (eOp 7) (Qc (QQ ZX (Qa (eOp 2) Qj))))) X7))) (Qn (XZ (Qd (.bool false))) QB) QB) (Qn (Qw 8 (QF (Yd K) (Qa (eOp 5) (Qa (eOp 1) Qj)))) (Qn (Qw 6 (Qp Xk (eOp 6) (eOp 8))) (Qn (Qw 5 (QF (XE K) (Qa (Qc (Qp QZ (eOp 8) (Qc (U9 JC (Qc (Qd (.int 1))))))) (Qa (Qc (Qp QZ (eOp 2) (eOp 7))) Qj)))) QB)))) (nD t) [some (.sh (.int n)), some (.sh (.list (chD chs))), some (.sh (.list (chD ws))), x3, x4, some (.sh (.tup (iL h))), some (.ow true (.list (Qy P))), v7, v8] =
   .ok .next [some (.sh (.int n)), some (.sh (.list (chD chs))), some (.sh (.list (chD ws))), x3, x4, some (.sh (.tup (iL (Cf chs ws h t)))), some (.ow true (.list (Qy (P ++ JV chs ws h t)))), y7, y8] ∧ (P ++ JV chs ws h t).length ≤ 900 := by
 intro t
 induction t with
 | nil => intro P h v7 v8 _ _ hl; rw [show JV chs ws h [] = [] from rfl, List.append_nil]; exact ⟨v7, v8, rfl, by simp at hl; omega⟩
 | cons c t ih =>
  intro P h v7 v8 hc rh hl
  rw [List.length_cons] at hl
  have hcc := hc c (.head _)
  have hlen := hm.c.len
  have h4 := hm.l
  have e1 := UP K rh.len hm.c
  have hll := Uw chs h
  obtain ⟨pre, p1, p2⟩ := KN chs h
  have e2 := J6 (l := pre) (a := VM h chs) (by omega)
  rw [← p1] at e2
  have e3 := D8 (W2 hcc) hm.l
  have e5 : XE K [.tup (iL (VM h chs)), .tup (nD (ws.getD c []))] = .ok (.sh (.tup (iL (aft h chs (ws.getD c []))))) := Jf K (Wt chs hm.c.all rh).len rh.h12 (hm.w _ (List.mem_of_getElem? (W2 hcc))).ok
  have e6 : JC (.int 1) = some (.sh (.int (-1))) := rfl
  have e7 : Xk (.list (Qy P)) (.list (Qy (QN h chs))) = some (.ow true (.list (Qy (P ++ QN h chs)))) := by
   rw [Uc (by rw [XC, XC]; omega)]; unfold Qy; rw [List.map_append]
  have e8 : QV K [.int (c : Int), .glob (.type "int")] = some (.sh (.bool true)) := rfl
  have e9 : QV K [.int (c : Int), .glob (.type "bool")] = some (.sh (.bool false)) := rfl
  have e10 := XN (ds := chD ws) (by rw [Xu]; omega)
  rw [Xu] at e10
  have e11 := JQ (a := 0) (b := (c : Int)) (by omega)
  have e12 := CT (a := (c : Int)) (b := (ws.length : Int)) (by omega)
  obtain ⟨y7, y8, h3, h4'⟩ := ih (P ++ QN h chs) (aft h chs (ws.getD c [])) (some (.sh (.int c))) (some (.ow true (.list (Qy (QN h chs))))) (fun x hx => hc x (.tail _ hx)) (V1 hm rh hcc) (by rw [List.length_append]; omega)
  rw [List.append_assoc] at h3 h4'
  refine ⟨y7, y8, ?_, h4'⟩
  show ZH _ _ (D.int (c : Nat) :: nD t) _ = _
  rw [show JV chs ws h (c :: t) = QN h chs ++ JV chs ws (aft h chs (ws.getD c [])) t from rfl, show Cf chs ws h (c :: t) = Cf chs ws (aft h chs (ws.getD c [])) t from rfl]
  clear h4'
  repeat' (first|(with_reducible first|assumption|exact Xa|exact QM|exact Yb|exact QJ|apply QR|exact XA|apply XB|exact QS|apply QL|exact QD|apply Qt|exact Qo|exact Qs|exact Q5|exact Qx|apply QK|apply QA|apply Q4|apply Qm|apply QG|apply QC|apply Q1|apply Xz|apply Zb|apply ZK|apply WT|apply Qz|apply Xe|apply Q0|apply ValK.ok|apply Op1K.ok|apply Op2K.ok|apply Op2L.ok|apply OpNK.ok|apply CallK.ok|apply ConsBL.ok|apply ConsBK.ok|apply TruthK.ok|apply ChainN.ok|apply ChainL.ok|apply ChainK.ok|apply AsgK.ok|exact NotK.t|apply OrK.f|apply ChainM.t|apply SeqK.next|apply IfK.f|apply Zc|apply Z4|apply ForL.next)|exact Q9 rfl|exact (rfl : Qk _ = true)|exact (rfl : (_ : Option _) = some _)|decide)
theorem Kn (K : Frag) {n : Nat} {chs ws : List (List Nat)} {t : List Nat} (hm : Mth n chs ws) (hc : ∀ c ∈ t, c < ws.length) (hl : t.length ≤ 12) (hg : ZF n chs ws [] (rng n) t = true) : ZD K [.int n, .list (chD chs), .list (chD ws), .int (t.length : Nat), .list (nD t)] = .ok (.sh (.bool true)) := by
 have e1 : Xp [.int (n : Int)] = some (.sh (.range 0 n 1)) := rfl
 have e2 := Uu n (by have := hm.c.h12; omega)
 have e3 : Zr (.list (nD t)) = some (nD t) := rfl
 have e4 : QV K [.list (nD t), .glob (.type "list")] = some (.sh (.bool true)) := WP K _
 have e5 := XN (ds := nD t) (by rw [Zf]; omega)
 rw [Zf] at e5
 have e6 := WH (Kw (t.length : Int) (t.length : Int))
 rw [Uf.mpr rfl] at e6
 have e6 : neI (.int (t.length : Int)) (.int (t.length : Int)) = some (.sh (.bool false)) := e6
 obtain ⟨g1, g2⟩ := Db t [] (rng n) .nil hg
 obtain ⟨y7, y8, h1, h2⟩ := B6 K (x3 := some (.sh (.int (t.length : Nat)))) (x4 := some (.sh (.list (nD t)))) hm t [] (rng n) none none hc (V2 hm.c.h3 hm.c.h12) (by simp; omega)
 rw [List.nil_append] at g1 h1 h2
 have e7 := Ue K (JV chs ws (rng n) t) (by omega)
 have e8 := (CU (JV chs ws (rng n) t) [] .nil).mpr (by rw [List.nil_append]; exact g1)
 rw [e8] at e7
 have e7 : X0 K [.list (Qy (JV chs ws (rng n) t))] = .ok (.sh .none) := e7
 have e9 := CW (Cf chs ws (rng n) t) (rng n)
 rw [OG.mpr g2] at e9
 have e10 : isI .none .none = some (.sh (.bool true)) := rfl
 have h1 : ZH (Xl 7) _ (nD t) [some (.sh (.int n)), some (.sh (.list (chD chs))), some (.sh (.list (chD ws))), some (.sh (.int (t.length : Nat))), some (.sh (.list (nD t))), some (.sh (.tup (iL (rng n)))), some (.ow true (.list [])), none, none] = .ok .next [some (.sh (.int n)), some (.sh (.list (chD chs))), some (.sh (.list (chD ws))), some (.sh (.int (t.length : Nat))), some (.sh (.list (nD t))), some (.sh (.tup (iL (Cf chs ws (rng n) t)))), some (.ow true (.list (Qy (JV chs ws (rng n) t)))), y7, y8] := h1
 unfold ZD Yg
 refine' Xc [some (.sh (.int n)), some (.sh (.list (chD chs))), some (.sh (.list (chD ws))), some (.sh (.int (t.length : Nat))), some (.sh (.list (nD t))), none, none, none, none] rfl rfl ?_ Q3
 repeat' (first|(with_reducible first|assumption|exact Xa|exact QM|exact Yb|exact QJ|apply QR|exact XA|apply XB|exact QS|apply QL|exact QD|apply Qt|exact ZC|exact Qo|exact Qs|exact Xg|exact Q5|exact Qx|apply QK|apply QA|apply Q4|apply Qm|apply QG|apply QC|apply Q1|apply QE|apply Xz|apply Zb|apply CK|apply Xy|apply Xh|apply Qz|apply Xe|apply QX|apply Q0|apply Zl|apply ValK.ok|apply Op2K.ok|apply Op2L.ok|apply OpNK.ok|apply CallK.ok|apply ConsBL.ok|apply ConsBK.ok|apply LstK.ok|apply TruthK.ok|apply Test2L.ok|apply Test2K.ok|apply BoK.ok|apply ItemsK.ok|apply RetK.ok|apply AsgK.ok|apply ForK.ok|exact NotK.t|apply OrK.f|apply BoL.andT|apply SeqK.next|exact SeqK.ret|apply IfK.f)|apply CE rfl Xa|apply CE rfl Zi|exact (rfl : Qk _ = true)|exact QP rfl|exact (rfl : (_ : Option _) = some _)|decide)
end Mine
end

section
set_option Elab.async false
set_option maxRecDepth 100000
set_option maxHeartbeats 4000000
set_option linter.unusedSimpArgs false
set_option linter.unusedVariables false
namespace Mine
open PySem PySem.W
theorem EX : PyData.strOk "away" = true := by decide +kernel
theorem El : PyData.strOk "clash" = true := by decide +kernel
theorem B4 : PyData.strOk "ask" = true := by decide +kernel
noncomputable def W7 (k : Nat) (d : D) : Prop := ∃ p, Wx d = some p ∧ PyData.canLay0 p = true ∧ p.depth ≤ k ∧ PyData.eqv p p = true
theorem BD (i : Int) : W7 0 (.int i) := ⟨_, rfl, rfl, Nat.le_refl _, beq_self_eq_true i⟩
theorem KT {s : Str} (h : PyData.strOk s = true) : W7 0 (.str s) := ⟨_, rfl, h, Nat.le_refl _, beq_self_eq_true s⟩
theorem DD {k : Nat} (ds : List D) : (∀ d ∈ ds, W7 k d) → ∃ ps, Yv ds = some ps ∧ PyData.canLayAll0 ps = true ∧ PyData.depthAll ps ≤ k ∧ PyData.eqvAll ps ps = true := by
 induction ds with
 | nil => intro _; exact ⟨[], rfl, rfl, Nat.zero_le _, rfl⟩
 | cons d ds ih =>
  intro h
  obtain ⟨p, a1, a2, a3, a4⟩ := h d (.head _)
  obtain ⟨ps, b1, b2, b3, b4⟩ := ih fun x hx => h x (.tail _ hx)
  exact ⟨p :: ps, JN a1 b1, Bool.and_eq_true_iff.mpr ⟨a2, b2⟩, Nat.max_le.mpr ⟨a3, b3⟩, Bool.and_eq_true_iff.mpr ⟨a4, b4⟩⟩
theorem WE {k : Nat} {ds : List D} (h : ∀ d ∈ ds, W7 k d) : W7 (k + 1) (.tup ds) := by
 obtain ⟨ps, b1, b2, b3, b4⟩ := DD ds h
 exact ⟨.tuple ps, CX b1, b2, Nat.succ_le_succ b3, b4⟩
theorem Vw {k m : Nat} {d : D} (q : W7 k d) (h : k ≤ m) : W7 m d := let ⟨p, a, b, c, e⟩ := q; ⟨p, a, b, Nat.le_trans c h, e⟩
theorem VT {k : Nat} {d : D} (q : W7 k d) (h : k ≤ 64) : eqI d d = some (.sh (.bool true)) := by
 obtain ⟨p, a, b, c, e⟩ := q
 have hs : SeqAt.shaped p = true := Bool.and_eq_true_iff.mpr ⟨b, decide_eq_true (Nat.le_trans c h)⟩
 exact WS (Ua a a hs hs e)
theorem Oz (a b : Int) : W7 1 (.tup [.str "clash", .int a, .int b]) := WE fun d hd => by
 rcases List.mem_cons.mp hd with rfl | hd
 ·exact KT El
 ·rcases List.mem_cons.mp hd with rfl | hd
  ·exact BD a
  ·rw [List.mem_singleton.mp hd]; exact BD b
theorem Vs : W7 1 (.tup [.str "away"]) := WE fun d hd => by rw [List.mem_singleton.mp hd]; exact KT EX
theorem Bt {k : Nat} {s : Str} {d : D} (hs : PyData.strOk s = true) (q : W7 k d) : W7 (k + 1) (.tup [.str s, d]) := WE fun x hx => by
 rcases List.mem_cons.mp hx with rfl | hx
 ·exact Vw (KT hs) (Nat.zero_le _)
 ·rw [List.mem_singleton.mp hx]; exact q
theorem C8 {n : Nat} {chs ws : List (List Nat)} : ∀ (r : Nat) {ahead : List (List Int)} {h : List Int} {d : D}, Ke n chs ws r ahead h d → W7 (2 * r + 1) d := by
 intro r
 induction r with
 | zero => intro ahead h d q; rw [q.2]; exact Vs
 | succ r ih =>
  intro ahead h d q
  rcases q with ⟨y, _, rfl⟩ | ⟨_, ds, rfl, _, hd⟩
  ·exact Vw (Oz _ _) (by omega)
  ·refine Vw (Bt B4 (WE fun x hx => ?_)) (Nat.le_refl (2 * r + 1 + 1 + 1))
   obtain ⟨c, hc⟩ := List.getElem?_of_mem hx
   exact ih (hd c x hc)
theorem Fr {ws : List (List Nat)} {c : Nat} (h : c < ws.length) : (chD ws)[c]? = some (.tup (nD (ws.getD c []))) := by
 unfold chD; rw [List.getElem?_map, W2 h]; rfl
theorem B1 (K : Frag) {n r : Nat} {chs ws : List (List Nat)} {ahead : List (List Int)} {h : List Int} {tr x7 x8 : Option T} {ds : List D} {R : List D → FOut} (hm : Mth n chs ws) (rh : Row n h) (hl : ahead.length ≤ 900) (hds : ds.length = ws.length)
  (hR : ∀ (c : Nat) (x : D), ds[c]? = some x → R [.list (chD chs), .list (chD ws), .int (r : Int), .tup (iL (aft h chs (ws.getD c []))), .list (Qy (ahead ++ QN h chs)), x] = .ok (.sh (.bool true))) :
  ∀ (m c : Nat) (v9 v10 : Option T), c + m = ws.length → ∃ ρ, Wm (Zj (Xi (Qc (QF R (Qa (eOp 0) (Qa (eOp 1) (Qa (Qc (Qp YO (eOp 2) (Qc (Qd (.int 1))))) (Qa (Qc (QF (XE K) (Qa (Qc (Qp QZ (eOp 6) (Qc (U9 JC (Qc (Qd (.int 1))))))) (Qa (eOp 9) Qj)))) (Qa (Qc (Qp Xk (eOp 4) (eOp 6))) (Qa (eOp 10) Qj)))))))))) 9 10 ((chD ws).drop c) (ds.drop c) [some (.sh (.list (chD chs))), some (.sh (.list (chD ws))), some (.sh (.int ((r + 1 : Nat) : Int))), some (.sh (.tup (iL h))), some (.sh (.list (Qy ahead))), tr, some (.sh (.list (Qy (QN h chs)))), x7, x8, v9, v10] = .ok .next ρ := by
 intro m
 induction m with
 | zero =>
  intro c v9 v10 hc
  rw [List.drop_of_length_le (by rw [Xu]; omega), List.drop_of_length_le (l := ds) (by omega)]
  exact ⟨_, rfl⟩
 | succ m ih =>
  intro c v9 v10 hc
  have hcc : c < ws.length := by omega
  have hg : ds[c]? = some ds[c] := List.getElem?_eq_getElem (by omega)
  rw [X8 (Fr hcc), X8 hg]
  generalize ds[c] = x at hg
  have e1 := hR c x hg
  have hll := Uw chs h
  have hlen := hm.c.len
  obtain ⟨pre, p1, p2⟩ := KN chs h
  have e2 := J6 (l := pre) (a := VM h chs) (by omega)
  rw [← p1] at e2
  have e5 : XE K [.tup (iL (VM h chs)), .tup (nD (ws.getD c []))] = .ok (.sh (.tup (iL (aft h chs (ws.getD c []))))) := Jf K (Wt chs hm.c.all rh).len rh.h12 (hm.w _ (List.mem_of_getElem? (W2 hcc))).ok
  have e6 : JC (.int 1) = some (.sh (.int (-1))) := rfl
  have e7 : Xk (.list (Qy ahead)) (.list (Qy (QN h chs))) = some (.ow true (.list (Qy (ahead ++ QN h chs)))) := by
   rw [Uc (by rw [XC, XC]; omega)]; unfold Qy; rw [List.map_append]
  have e8 : YO (.int ((r + 1 : Nat) : Int)) (.int 1) = some (.sh (.int (r : Int))) := congrArg (fun i => some (T.sh (.int i))) (show ((r + 1 : Nat) : Int) - 1 = (r : Int) by omega)
  obtain ⟨ρ, h2⟩ := ih (c + 1) (some (.sh (.tup (nD (ws.getD c []))))) (some (.sh x)) (by omega)
  refine ⟨ρ, (D3 (ρ' := [some (.sh (.list (chD chs))), some (.sh (.list (chD ws))), some (.sh (.int ((r + 1 : Nat) : Int))), some (.sh (.tup (iL h))), some (.sh (.list (Qy ahead))), tr, some (.sh (.list (Qy (QN h chs)))), x7, x8, some (.sh (.tup (nD (ws.getD c [])))), some (.sh x)]) ?_).trans h2⟩
  show (Zj (Xi (Qc (QF R (Qa (eOp 0) (Qa (eOp 1) (Qa (Qc (Qp YO (eOp 2) (Qc (Qd (.int 1))))) (Qa (Qc (QF (XE K) (Qa (Qc (Qp QZ (eOp 6) (Qc (U9 JC (Qc (Qd (.int 1))))))) (Qa (eOp 9) Qj)))) (Qa (Qc (Qp Xk (eOp 4) (eOp 6))) (Qa (eOp 10) Qj)))))))))) [some (.sh (.list (chD chs))), some (.sh (.list (chD ws))), some (.sh (.int ((r + 1 : Nat) : Int))), some (.sh (.tup (iL h))), some (.sh (.list (Qy ahead))), tr, some (.sh (.list (Qy (QN h chs)))), x7, x8, some (.sh (.tup (nD (ws.getD c [])))), some (.sh x)] = _
  clear h2
  repeat' (first|(with_reducible first|assumption|exact Xa|exact Zi|exact QM|exact QJ|apply QR|exact QS|apply QL|exact QD|apply Qt|exact Qo|exact Qs|apply QK|apply QA|apply Qm|apply QG|apply QC|apply Q1|apply Xz|apply WT|apply ValK.ok|apply Op1K.ok|apply Op2K.ok|apply Op2L.ok|apply CallK.ok|apply ConsBL.ok|apply ConsBK.ok|apply TruthK.ok|exact NotK.t)|exact Q9 rfl|exact (rfl : Qk _ = true)|exact (rfl : (_ : Option _) = some _)|decide)
end Mine
end

section
set_option Elab.async false
set_option maxRecDepth 100000
set_option maxHeartbeats 4000000
set_option linter.unusedSimpArgs false
set_option linter.unusedVariables false
namespace Mine
open PySem PySem.W
theorem Cg (K : Frag) (a b : Int) : Yr (Xl 1) (D4 (Xi (Qc (QQ (QV K) (Qa (eOp 1) (Qa (Qc (Qd (.glob (.type "int")))) Qj))))) (D4 (Zj (Xi (Qc (QQ (QV K) (Qa (eOp 1) (Qa (Qc (Qd (.glob (.type "bool")))) Qj)))))) VP)) (XJ 1) [none, none] [.int a, .int b] [] = some [.int a, .int b] := rfl
theorem V7 {i : Int} : neI (.int i) (.int i) = some (.sh (.bool false)) := by
 have := WH (Kw i i)
 rw [Uf.mpr rfl] at this
 exact this
theorem FD : neI (.str "ask") (.str "ask") = some (.sh (.bool false)) := WH (Ua (p := .str "ask") (q := .str "ask") (b := true) rfl rfl (Bool.and_eq_true_iff.mpr ⟨B4, rfl⟩) (Bool.and_eq_true_iff.mpr ⟨B4, rfl⟩) (beq_self_eq_true _))
theorem Ox (K : Frag) {n : Nat} {chs ws : List (List Nat)} (hm : Mth n chs ws) : ∀ (r d : Nat) (ahead : List (List Int)) (h : List Int) (tree : D), r < d → r ≤ 12 → ahead.length + r * 31 ≤ 900 → Row n h → Ke n chs ws r ahead h tree →
  Xs K d [.list (chD chs), .list (chD ws), .int (r : Int), .tup (iL h), .list (Qy ahead), tree] = .ok (.sh (.bool true)) := by
 intro r
 induction r with
 | zero =>
  intro d ahead h tree hd _ ha rh q
  obtain ⟨d, rfl⟩ : ∃ m, d = m + 1 := ⟨d - 1, by omega⟩
  obtain ⟨hb, rfl⟩ := q
  have e1 : QV K [.tup [.str "away"], .glob (.type "tuple")] = some (.sh (.bool true)) := Zs K (.tup [.str "away"]) rfl
  have e2 : eqI (.int ((0 : Nat) : Int)) (.int 0) = some (.sh (.bool true)) := CR 0
  have e3 := VT Vs (by decide)
  have e4 := Ur (ds := iL h) (by rw [Xf]; have := rh.len; have := rh.h12; omega)
  rw [Xf, rh.len] at e4
  have e5 : Xp [.int (n : Int)] = some (.sh (.range 0 n 1)) := rfl
  have e6 := Uu n (by have := hm.c.h12; omega)
  have e7 := E2 h (rng n)
  rw [hb] at e7
  have e7 : neI (.tup (iL h)) (.tup (iL (rng n))) = some (.sh (.bool true)) := e7
  show ZL 11 [0, 1, 2, 3, 4, 5] (XQ K (Xs K d)) _ = _
  unfold XQ
  refine' Xc [some (.sh (.list (chD chs))), some (.sh (.list (chD ws))), some (.sh (.int ((0 : Nat) : Int))), some (.sh (.tup (iL h))), some (.sh (.list (Qy ahead))), some (.sh (.tup [.str "away"])), none, none, none, none, none] rfl rfl ?_ Q3
  repeat' (first|(with_reducible first|assumption|exact Xa|exact Zi|exact QM|exact Yb|exact QJ|apply QR|exact XA|apply XB|exact QS|apply QL|exact QD|apply Qt|exact WI|apply Ut|exact ZC|apply ZG|exact Qo|exact Qs|exact Xg|exact Q5|exact Uy|exact Qx|apply QK|apply QA|apply Q4|apply Qm|apply QG|apply QC|apply QW|apply Q1|apply QE|apply Xz|apply Zb|apply CK|apply XF|apply KA|apply Ws|apply Xh|apply Jl|apply Qz|apply Xe|apply QX|apply Q0|apply Oi|apply VL|apply ValK.ok|apply Op2K.ok|apply Op2L.ok|apply OpNK.ok|apply CallK.ok|apply ConsBL.ok|apply ConsBK.ok|apply ConsL.ok|apply ConsK.ok|apply TupK.ok|apply TruthK.ok|apply Test2L.ok|apply Test2K.ok|apply BoK.ok|apply ItemsK.ok|apply RetK.ok|apply AsgK.ok|exact NotK.t|apply OrK.f|apply BoL.andT|apply SeqK.next|exact SeqK.ret|apply IfK.t|apply IfK.f|exact ix0|exact ix1)|exact Q9 rfl|exact (rfl : Qk _ = true)|exact QP rfl|exact (rfl : (_ : Option _) = some _)|decide)
 | succ r ih =>
  intro d ahead h tree hd h12 ha rh q
  obtain ⟨d, rfl⟩ : ∃ m, d = m + 1 := ⟨d - 1, by omega⟩
  have hcl := hm.c.len
  have h4 := hm.l
  have hll := Uw chs h
  have e2 := CZ (a := ((r + 1 : Nat) : Int)) (b := 0) (by omega)
  have e3 := UP K rh.len hm.c
  have e4 : Xk (.list (Qy ahead)) (.list (Qy (QN h chs))) = some (.ow true (.list (Qy (ahead ++ QN h chs)))) := by
   rw [Uc (by rw [XC, XC]; omega)]; unfold Qy; rw [List.map_append]
  have hal : (ahead ++ QN h chs).length + r * 31 ≤ 900 := by rw [List.length_append]; omega
  have e5 := Ue K (ahead ++ QN h chs) (by omega)
  show ZL 11 [0, 1, 2, 3, 4, 5] (XQ K (Xs K d)) _ = _
  unfold XQ
  rcases q with ⟨y, hy, rfl⟩ | ⟨hy, ds, rfl, hdl, hdt⟩
  ·rw [hy] at e5
   have e5 : X0 K [.list (Qy (ahead ++ QN h chs))] = .ok (.sh (.tup [.int (y.1 : Nat), .int (y.2 : Nat)])) := e5
   have e1 : QV K [.tup [.str "clash", .int (y.1 : Nat), .int (y.2 : Nat)], .glob (.type "tuple")] = some (.sh (.bool true)) := Zs K (.tup [.str "clash", .int (y.1 : Nat), .int (y.2 : Nat)]) rfl
   have e6 : J5 (.tup [.int (y.1 : Nat), .int (y.2 : Nat)]) .none = some (.sh (.bool true)) := rfl
   have e7 := VT (Oz (y.1 : Nat) (y.2 : Nat)) (by decide)
   have e8 : U0 (.tup [.str "clash", .int (y.1 : Nat), .int (y.2 : Nat)]) (some 1) none = some (.sh (.tup [.int (y.1 : Nat), .int (y.2 : Nat)])) := rfl
   have e9 : Zr (.tup [.int (y.1 : Nat), .int (y.2 : Nat)]) = some [.int (y.1 : Nat), .int (y.2 : Nat)] := rfl
   have e10 := Cg K (y.1 : Nat) (y.2 : Nat)
   have e11 : ZX [.list [.int (y.1 : Nat), .int (y.2 : Nat)]] = some (.sh (.int 2)) := rfl
   have e12 := CR 2
   refine' Xc [some (.sh (.list (chD chs))), some (.sh (.list (chD ws))), some (.sh (.int ((r + 1 : Nat) : Int))), some (.sh (.tup (iL h))), some (.sh (.list (Qy ahead))), some (.sh (.tup [.str "clash", .int (y.1 : Nat), .int (y.2 : Nat)])), none, none, none, none, none] rfl rfl ?_ Q3
   repeat' (first|(with_reducible first|assumption|exact Xa|exact Zi|exact QM|exact Yb|exact QJ|apply QR|exact XA|apply XB|exact QS|apply QL|exact QD|apply Qt|exact WI|apply Ut|exact ZC|apply ZG|exact Qo|exact Qs|exact Xg|exact Q5|exact Uy|exact Qx|apply QK|apply QA|apply Q4|apply Qm|apply QG|apply QC|apply QW|apply Q1|apply QE|apply Xz|apply Zb|apply CK|apply XF|apply KA|apply Ws|apply Xh|apply Jl|apply Qz|apply Xe|apply QX|apply Q0|apply Oi|apply VL|apply ValK.ok|apply Op2K.ok|apply Op2L.ok|apply OpNK.ok|apply CallK.ok|apply ConsBL.ok|apply ConsBK.ok|apply ConsL.ok|apply ConsK.ok|apply TupK.ok|apply TruthK.ok|apply Test2L.ok|apply Test2K.ok|apply BoK.ok|apply ItemsK.ok|apply RetK.ok|apply AsgK.ok|exact NotK.t|apply OrK.f|apply BoL.andT|apply SeqK.next|exact SeqK.ret|apply IfK.t|apply IfK.f|exact ix0|exact ix1)|exact Q9 rfl|exact (rfl : Qk _ = true)|exact QP rfl|exact (rfl : (_ : Option _) = some _)|decide)
  ·rw [hy] at e5
   have e5 : X0 K [.list (Qy (ahead ++ QN h chs))] = .ok (.sh .none) := e5
   have e1 : QV K [.tup [.str "ask", .tup ds], .glob (.type "tuple")] = some (.sh (.bool true)) := Zs K (.tup [.str "ask", .tup ds]) rfl
   have e6 : J5 .none .none = some (.sh (.bool false)) := rfl
   have e7 : ZX [.tup [.str "ask", .tup ds]] = some (.sh (.int 2)) := rfl
   have e8 := V7 (i := 2)
   have e9 := FD
   have e10 : QV K [.tup ds, .glob (.type "tuple")] = some (.sh (.bool true)) := Zs K (.tup ds) rfl
   have e11 := Ur (ds := ds) (by omega)
   rw [hdl] at e11
   have e12 := XN (ds := chD ws) (by rw [Xu]; omega)
   rw [Xu] at e12
   have e13 := V7 (i := (ws.length : Int))
   have e14 : (chD ws).length = ds.length := by rw [Xu, hdl]
   obtain ⟨ρ, e15⟩ := B1 K (tr := some (.sh (.tup [.str "ask", .tup ds]))) (x7 := some (.sh .none)) (x8 := none) hm rh (by omega) hdl (fun c x hx => ih d (ahead ++ QN h chs) (aft h chs (ws.getD c [])) x (by omega) (by omega) hal (V1 hm rh (by
    have := (List.getElem?_eq_some_iff.mp hx).1
    omega)) (hdt c x hx)) ws.length 0 none none (by omega)
   rw [List.drop_zero, List.drop_zero] at e15
   have e16 : Za [some (.sh (.list (chD chs))), some (.sh (.list (chD ws))), some (.sh (.int ((r + 1 : Nat) : Int))), some (.sh (.tup (iL h))), some (.sh (.list (Qy ahead))), some (.sh (.tup [.str "ask", .tup ds])), some (.sh (.list (Qy (QN h chs)))), some (.sh .none), none, none, none] = true := rfl
   refine' Xc [some (.sh (.list (chD chs))), some (.sh (.list (chD ws))), some (.sh (.int ((r + 1 : Nat) : Int))), some (.sh (.tup (iL h))), some (.sh (.list (Qy ahead))), some (.sh (.tup [.str "ask", .tup ds])), none, none, none, none, none] rfl rfl ?_ Q3
   repeat' (first|(with_reducible first|assumption|exact Xa|exact Zi|exact QM|exact Yb|exact QJ|apply QR|exact XA|apply XB|exact QS|apply QL|exact QD|apply Qt|exact WI|apply Ut|exact ZC|apply ZG|exact Qo|exact Qs|exact Xg|exact Q5|exact Uy|exact Qx|apply QK|apply QA|apply Q4|apply Qm|apply QG|apply QC|apply QW|apply Q1|apply QE|apply Xz|apply Zb|apply CK|apply XF|apply KA|apply Ws|apply Xh|apply Jl|apply Qz|apply Xe|apply QX|apply Q0|apply Oi|apply VL|apply ValK.ok|apply Op2K.ok|apply Op2L.ok|apply OpNK.ok|apply CallK.ok|apply ConsBL.ok|apply ConsBK.ok|apply ConsL.ok|apply ConsK.ok|apply TupK.ok|apply TruthK.ok|apply Test2L.ok|apply Test2K.ok|apply BoK.ok|apply ItemsK.ok|apply RetK.ok|apply AsgK.ok|exact NotK.t|apply OrK.f|apply BoL.andT|apply SeqK.next|exact SeqK.ret|apply IfK.t|apply IfK.f|exact ix0|exact ix1)|exact Q9 rfl|exact (rfl : Qk _ = true)|exact QP rfl|exact (rfl : (_ : Option _) = some _)|decide)
end Mine
end

section
set_option Elab.async false
set_option maxRecDepth 100000
set_option maxHeartbeats 8000000
set_option linter.unusedSimpArgs false
set_option linter.unusedVariables false
namespace Mine
open PySem PySem.W
theorem DZ (t : List Nat) : eqI (Z7 t) (Z7 t) = some (.sh (.bool true)) := by
 have h1 : Yv (nD t) = some ((t.map fun (p : Nat) => (p : Int)).map .int) := by
  rw [show nD t = iL (t.map fun (p : Nat) => (p : Int)) by unfold nD iL; rw [List.map_map]; rfl, Un]
 generalize (t.map fun (p : Nat) => (p : Int)) = l at h1
 have hp : Wx (Z7 t) = some (.tuple [.str "touch", .list (l.map .int)]) := CX (JN rfl (JN (B2 h1) rfl))
 have hs : SeqAt.shaped (.tuple [.str "touch", .list (l.map .int)]) = true := by
  refine Bool.and_eq_true_iff.mpr ⟨?_, decide_eq_true ?_⟩
  ·show (PyData.strOk "touch" && (PyData.canLayAll0 (l.map .int) && true)) = true
   rw [Zq, J2]; rfl
  ·show max 0 (max (PyData.depthAll (l.map .int) + 1) 0) + 1 ≤ 64
   have := Wb l
   omega
 refine WS (Ua hp hp hs hs ?_)
 show ((("touch" : Str) == "touch") && (PyData.eqvAll (l.map .int) (l.map .int) && true)) = true
 rw [Ug, beq_self_eq_true, decide_eq_true rfl]; rfl
theorem Us (c m : Int) {k : Nat} (hk : m = k) (h : 0 < k) : ∃ p : Nat, p < k ∧ Yi (.int c) (.int m) = some (.sh (.int p)) := by
 obtain ⟨p, h1, h2⟩ := Bl c h
 exact ⟨p, h2, by rw [hk, Zm (by omega), h1]⟩
theorem Cr (K : Frag) {n m : Nat} {ns : List Int} (hl : ns.length ≤ 63) (h3 : 3 ≤ n) (h12 : n ≤ 12) (hm : m ≤ 30) : ∃ chs, Chs n chs ∧ Yr (Xl 1) K6 (QF (Xm K) (Qa (Qc (QF (XO K) (Qa (Qc (QF (Xo K) (Qa (eOp 3) (Qa (Qc (Qp Xk (Qc (Qd (.int 3))) (Qc (Qp Yi (eOp 1) (Qc (Qd (.int 6))))))) Qj)))) (Qa (Qc (Qp U3 (eOp 1) (Qc (Qd (.int 6))))) Qj)))) (Qa (eOp 2) Qj))) [none, none, some (.sh (.int n)), some (.sh (.list (iL ns)))] (iL (rng m)) [] = some (chD chs) := by
 refine ⟨(List.range m).map fun j => VE K (mix (ns.getD (3 + j % 6) 0) ((j / 6 : Nat) : Int)) n, ⟨h3, h12, by simp; omega, fun c hc => ?_⟩, ?_⟩
 ·obtain ⟨j, _, rfl⟩ := List.mem_map.mp hc
  exact (KD K _ h3 h12).2
 ·have := Uv (b := Xl 1) (f := (QF (Xm K) (Qa (Qc (QF (XO K) (Qa (Qc (QF (Xo K) (Qa (eOp 3) (Qa (Qc (Qp Xk (Qc (Qd (.int 3))) (Qc (Qp Yi (eOp 1) (Qc (Qd (.int 6))))))) Qj)))) (Qa (Qc (Qp U3 (eOp 1) (Qc (Qd (.int 6))))) Qj)))) (Qa (eOp 2) Qj)))) (ρ₀ := [none, none, some (.sh (.int n)), some (.sh (.list (iL ns)))]) (g := fun d => match d with | .int k => .tup (nD (VE K (mix (ns.getD (3 + k.toNat % 6) 0) ((k.toNat / 6 : Nat) : Int)) n)) | _ => .none) (iL (rng m)) (fun d hd => ?_) (by rw [Xf, JG]; omega)
  ·rw [this]
   unfold iL rng chD
   rw [List.map_map, List.map_map, List.map_map]
   congr 1
  ·obtain ⟨k, hk, rfl⟩ := List.mem_map.mp hd
   have hk' := V9.mp hk
   obtain ⟨j, rfl⟩ := Int.eq_ofNat_of_zero_le hk'.1
   have e1 : Yi (.int (j : Int)) (.int 6) = some (.sh (.int ((j % 6 : Nat) : Int))) := CM j 6 (by decide)
   have e2 : Xk (.int 3) (.int ((j % 6 : Nat) : Int)) = some (.sh (.int ((3 + j % 6 : Nat) : Int))) := rfl
   have e3 := Yl K ns (3 + j % 6) hl
   have e4 : U3 (.int (j : Int)) (.int 6) = some (.sh (.int ((j / 6 : Nat) : Int))) := Fd j 6 (by decide) (by decide)
   have e5 := Yz K (ns.getD (3 + j % 6) 0) ((j / 6 : Nat) : Int) (Up (by omega))
   have e6 := (KD K (mix (ns.getD (3 + j % 6) 0) ((j / 6 : Nat) : Int)) h3 h12).1
   refine ⟨[none, some (.sh (.int j)), some (.sh (.int n)), some (.sh (.list (iL ns)))], .sh (.tup (nD (VE K (mix (ns.getD (3 + j % 6) 0) ((j / 6 : Nat) : Int)) n))), [none, some (.sh (.int j)), some (.sh (.int n)), some (.sh (.list (iL ns)))], rfl, ?_, rfl⟩
   repeat' (first|(with_reducible first|assumption|exact Xa|exact QM|exact QJ|apply QR|exact QS|apply QL|exact QD|apply Qt|exact Qo|exact Qs|apply QK|apply QA|apply Qm|apply QG|apply QC|apply ValK.ok|apply Op2K.ok|apply Op2L.ok|apply CallK.ok|apply ConsBL.ok|apply ConsBK.ok)|exact Q9 rfl|exact (rfl : Qk _ = true)|exact (rfl : (_ : Option _) = some _)|decide)
theorem B5 (K : Frag) {n m : Nat} {ns : List Int} (hl : ns.length ≤ 63) (h3 : 3 ≤ n) (h12 : n ≤ 12) (hm : m ≤ 4) : ∃ ws, ws.length = m ∧ (∀ x ∈ ws, Change n x) ∧ Yr (Xl 1) K6 (QF (Xm K) (Qa (Qc (QF (XO K) (Qa (Qc (QF (Xo K) (Qa (eOp 3) (Qa (Qc (Qd (.int 2))) Qj)))) (Qa (Qc (Qp Xk (Qc (Qd (.int 30))) (eOp 1))) Qj)))) (Qa (eOp 2) Qj))) [none, none, some (.sh (.int n)), some (.sh (.list (iL ns)))] (iL (rng m)) [] = some (chD ws) := by
 refine ⟨(List.range m).map fun (j : Nat) => VE K (mix (ns.getD 2 0) (30 + (j : Int))) n, by simp, fun x hx => ?_, ?_⟩
 ·obtain ⟨j, _, rfl⟩ := List.mem_map.mp hx
  exact (KD K _ h3 h12).2
 ·have := Uv (b := Xl 1) (f := (QF (Xm K) (Qa (Qc (QF (XO K) (Qa (Qc (QF (Xo K) (Qa (eOp 3) (Qa (Qc (Qd (.int 2))) Qj)))) (Qa (Qc (Qp Xk (Qc (Qd (.int 30))) (eOp 1))) Qj)))) (Qa (eOp 2) Qj)))) (ρ₀ := [none, none, some (.sh (.int n)), some (.sh (.list (iL ns)))]) (g := fun d => match d with | .int k => .tup (nD (VE K (mix (ns.getD 2 0) (30 + k)) n)) | _ => .none) (iL (rng m)) (fun d hd => ?_) (by rw [Xf, JG]; omega)
  ·rw [this]
   unfold iL rng chD
   rw [List.map_map, List.map_map, List.map_map]
   congr 1
  ·obtain ⟨k, hk, rfl⟩ := List.mem_map.mp hd
   have hk' := V9.mp hk
   have c2 : Xo K [.list (iL ns), .int 2] = .ok (.sh (.int (ns.getD 2 0))) := Yl K ns 2 hl
   have e2 : Xk (.int 30) (.int k) = some (.sh (.int (30 + k))) := rfl
   have e5 := Yz K (ns.getD 2 0) (30 + k) (Up (by omega))
   have e6 := (KD K (mix (ns.getD 2 0) (30 + k)) h3 h12).1
   refine ⟨[none, some (.sh (.int k)), some (.sh (.int n)), some (.sh (.list (iL ns)))], .sh (.tup (nD (VE K (mix (ns.getD 2 0) (30 + k)) n))), [none, some (.sh (.int k)), some (.sh (.int n)), some (.sh (.list (iL ns)))], rfl, ?_, rfl⟩
   repeat' (first|(with_reducible first|assumption|exact Xa|exact QM|exact QJ|apply QR|exact QS|apply QL|exact QD|apply Qt|exact Qo|exact Qs|apply QK|apply QA|apply Qm|apply QG|apply QC|apply ValK.ok|apply Op2K.ok|apply Op2L.ok|apply CallK.ok|apply ConsBL.ok|apply ConsBK.ok)|exact Q9 rfl|exact (rfl : Qk _ = true)|exact (rfl : (_ : Option _) = some _)|decide)
noncomputable def JS (lo n : Nat) : List Nat := (List.range ((n - lo) / 2)).map fun i => lo + 2 * i
theorem DO {n : Nat} : ∀ (m lo a : Nat), a ≤ lo → lo + 2 * m ≤ n → Yu n a ((List.range m).map fun i => lo + 2 * i) = true := by
 intro m
 induction m with
 | zero => intro lo a _ _; rfl
 | succ m ih =>
  intro lo a ha hl
  have h := ih (lo + 2) (lo + 2) (Nat.le_refl _) (by omega)
  have e : ((List.range (m + 1)).map fun i => lo + 2 * i) = lo :: ((List.range m).map fun i => lo + 2 + 2 * i) := by
   rw [List.range_succ_eq_map, List.map_cons, List.map_map]
   refine congrArg (lo :: ·) (List.map_congr_left fun i _ => ?_)
   show lo + 2 * (i + 1) = _
   omega
  rw [e]
  unfold Yu
  rw [h]
  simp only [Bool.and_true, Bool.and_eq_true, decide_eq_true_eq]
  omega
theorem V6 {n lo : Nat} (h3 : 3 ≤ n) (hlo : lo ≤ 1) : Change n (JS lo n) := by
 constructor
 ·unfold JS
  rw [Ne, List.map_eq_nil_iff, List.range_eq_nil]; omega
 ·unfold JS
  exact DO _ lo 0 (Nat.zero_le _) (by omega)
theorem Kc {n lo : Nat} (h3 : 3 ≤ n) (h12 : n ≤ 12) (hlo : lo ≤ 1) : XH [.range (lo : Nat) ((n : Int) - 1) 2] = some (.sh (.tup (nD (JS lo n)))) := by
 match n, lo, h3, h12, hlo with
 | 3, 0, _, _, _ => rfl
 | 4, 0, _, _, _ => rfl
 | 5, 0, _, _, _ => rfl
 | 6, 0, _, _, _ => rfl
 | 7, 0, _, _, _ => rfl
 | 8, 0, _, _, _ => rfl
 | 9, 0, _, _, _ => rfl
 | 10, 0, _, _, _ => rfl
 | 11, 0, _, _, _ => rfl
 | 12, 0, _, _, _ => rfl
 | 3, 1, _, _, _ => rfl
 | 4, 1, _, _, _ => rfl
 | 5, 1, _, _, _ => rfl
 | 6, 1, _, _, _ => rfl
 | 7, 1, _, _, _ => rfl
 | 8, 1, _, _, _ => rfl
 | 9, 1, _, _, _ => rfl
 | 10, 1, _, _, _ => rfl
 | 11, 1, _, _, _ => rfl
 | 12, 1, _, _, _ => rfl
theorem Ex (K : Frag) {n m : Nat} (h3 : 3 ≤ n) (h12 : n ≤ 12) (hm : m ≤ 30) : ∃ chs, Chs n chs ∧ Yr (Xl 1) K6 (Qp QZ (Qc (YB (QI (QQ XH (Qa (Qc (QQ Xp (Qa (Qc (Qd (.int 0))) (Qa (Qc (Qp YO (eOp 2) (Qc (Qd (.int 1))))) (Qa (Qc (Qd (.int 2))) Qj))))) Qj)) (QI (QQ XH (Qa (Qc (QQ Xp (Qa (Qc (Qd (.int 1))) (Qa (Qc (Qp YO (eOp 2) (Qc (Qd (.int 1))))) (Qa (Qc (Qd (.int 2))) Qj))))) Qj)) Zp)))) (Qc (Qp Yi (eOp 1) (Qc (Qd (.int 2)))))) [none, none, some (.sh (.int n))] (iL (rng m)) [] = some (chD chs) := by
 refine ⟨(List.range m).map fun j => JS (j % 2) n, ⟨h3, h12, by simp; omega, fun c hc => ?_⟩, ?_⟩
 ·obtain ⟨j, _, rfl⟩ := List.mem_map.mp hc
  exact V6 h3 (by omega)
 ·have := Uv (b := Xl 1) (f := (Qp QZ (Qc (YB (QI (QQ XH (Qa (Qc (QQ Xp (Qa (Qc (Qd (.int 0))) (Qa (Qc (Qp YO (eOp 2) (Qc (Qd (.int 1))))) (Qa (Qc (Qd (.int 2))) Qj))))) Qj)) (QI (QQ XH (Qa (Qc (QQ Xp (Qa (Qc (Qd (.int 1))) (Qa (Qc (Qp YO (eOp 2) (Qc (Qd (.int 1))))) (Qa (Qc (Qd (.int 2))) Qj))))) Qj)) Zp)))) (Qc (Qp Yi (eOp 1) (Qc (Qd (.int 2))))))) (ρ₀ := [none, none, some (.sh (.int n))]) (g := fun d => match d with | .int k => .tup (nD (JS (k.toNat % 2) n)) | _ => .none) (iL (rng m)) (fun d hd => ?_) (by rw [Xf, JG]; omega)
  ·rw [this]
   unfold iL rng chD
   rw [List.map_map, List.map_map, List.map_map]
   congr 1
  ·obtain ⟨k, hk, rfl⟩ := List.mem_map.mp hd
   have hk' := V9.mp hk
   obtain ⟨j, rfl⟩ := Int.eq_ofNat_of_zero_le hk'.1
   have e1 : Yi (.int (j : Int)) (.int 2) = some (.sh (.int ((j % 2 : Nat) : Int))) := CM j 2 (by decide)
   have e2 : YO (.int (n : Int)) (.int 1) = some (.sh (.int ((n : Int) - 1))) := rfl
   have e3 : Xp [.int 0, .int ((n : Int) - 1), .int 2] = some (.sh (.range 0 ((n : Int) - 1) 2)) := rfl
   have e4 : Xp [.int 1, .int ((n : Int) - 1), .int 2] = some (.sh (.range 1 ((n : Int) - 1) 2)) := rfl
   have e5 : XH [.range 0 ((n : Int) - 1) 2] = some (.sh (.tup (nD (JS 0 n)))) := Kc (lo := 0) h3 h12 (by omega)
   have e6 : XH [.range 1 ((n : Int) - 1) 2] = some (.sh (.tup (nD (JS 1 n)))) := Kc (lo := 1) h3 h12 (by omega)
   have e7 : QZ (.list [.tup (nD (JS 0 n)), .tup (nD (JS 1 n))]) (.int ((j % 2 : Nat) : Int)) = some (.sh (.tup (nD (JS (j % 2) n)))) := by
    rcases Nat.mod_two_eq_zero_or_one j with h | h
    ·rw [h]; exact il0
    ·rw [h]; exact il1
   refine ⟨[none, some (.sh (.int j)), some (.sh (.int n))], .sh (.tup (nD (JS (j % 2) n))), [none, some (.sh (.int j)), some (.sh (.int n))], rfl, ?_, rfl⟩
   repeat' (first|(with_reducible first|assumption|exact Xa|exact Zi|exact QM|exact QJ|apply QR|exact QS|apply QL|exact QD|apply Qt|exact ZC|apply ZG|exact Qo|exact Qs|exact Xg|apply QK|apply QA|apply Q4|apply Qm|apply QG|apply QW|apply Xy|apply ValK.ok|apply Op2K.ok|apply Op2L.ok|apply OpNK.ok|apply ConsBL.ok|apply ConsBK.ok|apply ConsL.ok|apply ConsK.ok|apply LstK.ok|exact il0|exact il1)|exact (rfl : Qk _ = true)|exact (rfl : (_ : Option _) = some _)|decide)
theorem D7 (q : Nat) (h : q < 4) : ∃ z : Nat, 0 < z ∧ z ≤ 12 ∧ (1 + q) ^ z ≤ 900 ∧ QZ (.list [.int 12, .int 6, .int 4, .int 3]) (.int q) = some (.sh (.int z)) := by
 match q, h with
 | 0, _ => exact ⟨12, by omega, by omega, by decide +kernel, il0⟩
 | 1, _ => exact ⟨6, by omega, by omega, by decide +kernel, il1⟩
 | 2, _ => exact ⟨4, by omega, by omega, by decide +kernel, Xw (by decide) (by decide) rfl⟩
 | 3, _ => exact ⟨3, by omega, by omega, by decide +kernel, Xw (by decide) (by decide) rfl⟩
theorem Kl (K : Frag) {ns : List Int} (hl : ns.length ≤ 63) : ∃ (n : Nat) (chs ws : List (List Nat)) (m : Nat), Z3 K [.list (iL ns)] = .ok (.sh (.tup [.int n, .list (chD chs), .list (chD ws), .int m])) ∧ Mth n chs ws ∧ 1 ≤ ws.length ∧ 1 ≤ m ∧ m ≤ 12 ∧ ws.length ^ m ≤ 900 := by
 have c0 : Xo K [.list (iL ns), .int 0] = .ok (.sh (.int (ns.getD 0 0))) := Yl K ns 0 hl
 have c1 : Xo K [.list (iL ns), .int 1] = .ok (.sh (.int (ns.getD 1 0))) := Yl K ns 1 hl
 generalize ns.getD 0 0 = a at c0
 generalize ns.getD 1 0 = c at c1
 obtain ⟨p4, h4, d4⟩ := Us a 4 (k := 4) rfl (by decide)
 obtain ⟨p10, h10, d10⟩ := Us (a.fdiv 4) 10 (k := 10) rfl (by decide)
 have hb : ∃ x : Nat, x ≤ 9 ∧ QZ (.list [.int 0, .int 1, .int (p10 : Int), .int (p10 : Int)]) (.int p4) = some (.sh (.int x)) := by
  match p4, h4 with
  | 0, _ => exact ⟨0, by omega, il0⟩
  | 1, _ => exact ⟨1, by omega, il1⟩
  | 2, _ => exact ⟨p10, by omega, Xw (by decide) (by decide) rfl⟩
  | 3, _ => exact ⟨p10, by omega, Xw (by decide) (by decide) rfl⟩
 obtain ⟨x, hx, dx⟩ := hb
 have dn : Xk (.int 3) (.int (x : Int)) = some (.sh (.int ((3 + x : Nat) : Int))) := rfl
 obtain ⟨n, hn⟩ : ∃ n, n = 3 + x := ⟨_, rfl⟩
 rw [← hn] at dn
 have h3 : 3 ≤ n := by omega
 have h12 : n ≤ 12 := by omega
 obtain ⟨p7, h7, d7⟩ := Us c 7 (k := 7) rfl (by decide)
 have hmn : ∃ y : Nat, y ≤ 5 ∧ QZ (.list [.int 0, .int 1, .int 2, .int 3, .int 0, .int 1, .int 5]) (.int p7) = some (.sh (.int y)) := by
  match p7, h7 with
  | 0, _ => exact ⟨0, by omega, il0⟩
  | 1, _ => exact ⟨1, by omega, il1⟩
  | 2, _ => exact ⟨2, by omega, Xw (by decide) (by decide) rfl⟩
  | 3, _ => exact ⟨3, by omega, Xw (by decide) (by decide) rfl⟩
  | 4, _ => exact ⟨0, by omega, Xw (by decide) (by decide) rfl⟩
  | 5, _ => exact ⟨1, by omega, Xw (by decide) (by decide) rfl⟩
  | 6, _ => exact ⟨5, by omega, Xw (by decide) (by decide) rfl⟩
 obtain ⟨y, hy, dy⟩ := hmn
 obtain ⟨chs1, hc1, k1⟩ := Cr K (ns := ns) hl h3 h12 (show y ≤ 30 by omega)
 have r1 : Xp [.int (y : Int)] = some (.sh (.range 0 y 1)) := rfl
 have i1 := WW y (by omega)
 obtain ⟨p12, h12', d12⟩ := Us c 12 (k := 12) rfl (by decide)
 obtain ⟨chs2, hc2, k2⟩ := Ex K (n := n) h3 h12 (show p12 ≤ 30 by omega)
 have r2 : Xp [.int (p12 : Int)] = some (.sh (.range 0 p12 1)) := rfl
 have i2 := WW p12 (by omega)
 obtain ⟨q4, hq4, dq4⟩ := Us (c.fdiv 21) 4 (k := 4) rfl (by decide)
 have dq : Xk (.int 1) (.int (q4 : Int)) = some (.sh (.int ((1 + q4 : Nat) : Int))) := rfl
 obtain ⟨ws, w1, w2, w3⟩ := B5 K (ns := ns) hl h3 h12 (show 1 + q4 ≤ 4 by omega)
 have r3 : Xp [.int ((1 + q4 : Nat) : Int)] = some (.sh (.range 0 ((1 + q4 : Nat) : Int) 1)) := rfl
 have i3 := WW (1 + q4) (by omega)
 have lw := XN (ds := chD ws) (by rw [Xu]; omega)
 rw [Xu, w1] at lw
 have sw : YO (.int ((1 + q4 : Nat) : Int)) (.int 1) = some (.sh (.int (q4 : Int))) := congrArg (fun i => some (T.sh (.int i))) (show ((1 + q4 : Nat) : Int) - 1 = (q4 : Int) by omega)
 obtain ⟨z, hz0, hz12, hzp, dz⟩ := D7 q4 hq4
 obtain ⟨pz, hpz, dpz⟩ := Us (c.fdiv 84) (z : Int) rfl hz0
 have dm : Xk (.int 1) (.int (pz : Int)) = some (.sh (.int ((1 + pz : Nat) : Int))) := rfl
 have hpow : ws.length ^ (1 + pz) ≤ 900 := by
  rw [w1]
  exact Nat.le_trans (Nat.pow_le_pow_right (by omega) (by omega)) hzp
 unfold Z3 Js
 by_cases hs : (c.fdiv 7).fmod 3 = 1
 ·have qs : eqI (.int ((c.fdiv 7).fmod 3)) (.int 1) = some (.sh (.bool true)) := by rw [hs]; exact CR 1
  refine ⟨n, chs2, ws, 1 + pz, ?_, ⟨hc2, w2, by omega⟩, by omega, by omega, by omega, hpow⟩
  refine' Xc [some (.sh (.list (iL ns))), none, none, none, none, none, none] rfl rfl ?_ Q3
  repeat' (first|(with_reducible first|assumption|exact Xa|exact Zi|exact QM|exact QJ|apply QR|exact XA|apply XB|exact QS|apply QL|exact QD|apply Qt|exact WI|apply Ut|apply C2|exact FR|exact ZC|apply ZG|exact Qo|exact Qs|exact Xg|exact Qx|apply QK|apply QA|apply Q4|apply Qm|apply QG|apply QC|apply QW|apply QE|apply XF|apply Xy|apply Xh|apply Jl|apply Qz|apply Xe|apply QX|apply Q0|apply Zm|apply Y0|apply ValK.ok|apply Op2K.ok|apply Op2L.ok|apply OpNK.ok|apply CallK.ok|apply ConsBL.ok|apply ConsBK.ok|apply ConsL.ok|apply ConsK.ok|apply TupK.ok|apply LstK.ok|apply Test2L.ok|apply Test2K.ok|apply ItemsK.ok|apply RetK.ok|apply AsgK.ok|apply SeqK.next|exact SeqK.ret|apply IfK.t|apply IfK.f|exact il0|exact il1)|exact Q9 rfl|exact (rfl : Qk _ = true)|exact QP rfl|apply U8 rfl|exact (rfl : (_ : Option _) = some _)|decide)
 ·have qs := CZ hs
  refine ⟨n, chs1, ws, 1 + pz, ?_, ⟨hc1, w2, by omega⟩, by omega, by omega, by omega, hpow⟩
  refine' Xc [some (.sh (.list (iL ns))), none, none, none, none, none, none] rfl rfl ?_ Q3
  repeat' (first|(with_reducible first|assumption|exact Xa|exact Zi|exact QM|exact QJ|apply QR|exact XA|apply XB|exact QS|apply QL|exact QD|apply Qt|exact WI|apply Ut|apply C2|exact FR|exact ZC|apply ZG|exact Qo|exact Qs|exact Xg|exact Qx|apply QK|apply QA|apply Q4|apply Qm|apply QG|apply QC|apply QW|apply QE|apply XF|apply Xy|apply Xh|apply Jl|apply Qz|apply Xe|apply QX|apply Q0|apply Zm|apply Y0|apply ValK.ok|apply Op2K.ok|apply Op2L.ok|apply OpNK.ok|apply CallK.ok|apply ConsBL.ok|apply ConsBK.ok|apply ConsL.ok|apply ConsK.ok|apply TupK.ok|apply LstK.ok|apply Test2L.ok|apply Test2K.ok|apply ItemsK.ok|apply RetK.ok|apply AsgK.ok|apply SeqK.next|exact SeqK.ret|apply IfK.t|apply IfK.f|exact il0|exact il1)|exact Q9 rfl|exact (rfl : Qk _ = true)|exact QP rfl|apply U8 rfl|exact (rfl : (_ : Option _) = some _)|decide)
theorem CL (t : List Nat) : (nD t).all VU = true ∧ ZA (nD t) = true := by
 induction t with
 | nil => exact ⟨rfl, rfl⟩
 | cons a t ih => exact ⟨ih.1, ih.2⟩
theorem BS (cs : List (List Nat)) : ((chD cs).all Cb && ZA (chD cs)) = true := by
 induction cs with
 | nil => rfl
 | cons a cs ih =>
  obtain ⟨h1, h2⟩ := Bool.and_eq_true_iff.mp ih
  exact Bool.and_eq_true_iff.mpr ⟨h1, Bool.and_eq_true_iff.mpr ⟨(CL a).2, h2⟩⟩
theorem Cl (n m : Nat) (chs ws : List (List Nat)) : ZA [mth n chs ws, .int (m : Int)] = true := by
 have a : YX (.list (chD chs)) = true := BS chs
 have b : YX (.list (chD ws)) = true := BS ws
 show ((YX (.int (n : Int)) && (YX (.list (chD chs)) && (YX (.list (chD ws)) && ZA []))) && (YX (.int (m : Int)) && ZA [])) = true
 rw [a, b]; rfl
theorem Fe : neI (.str "none") (.str "none") = some (.sh (.bool false)) := WH (Ua (p := .str "none") (q := .str "none") (b := true) rfl rfl (Bool.and_eq_true_iff.mpr ⟨KK, rfl⟩) (Bool.and_eq_true_iff.mpr ⟨KK, rfl⟩) (beq_self_eq_true _))
theorem atE {α : Type} {f : AEnv → Res α} {ρ : AEnv} {r : Res α} (ρ' : AEnv) (h : f ρ' = r) (e : ρ = ρ') : f ρ = r := by subst e; exact h
theorem law11_plain (K : Frag) (ns : List Int) (hl : ns.length ≤ 63) : BB K [.list (ns.map .int)] = .ok (.sh (.bool true)) := by
 show BB K [.list (iL ns)] = _
 obtain ⟨n, chs, ws, m, f1, hm, h1, hm1, h12, hpow⟩ := Kl K hl
 have h4 := hm.l
 have g1 := Yj (ds := chD chs) (by rw [Xu]; have := hm.c.len; omega)
 have g2 := Yj (ds := chD ws) (by rw [Xu]; omega)
 have hI : Ku (Jo K) [.int n, .list (chD chs), .list (chD ws)] = .ok [.int n, .list (chD chs), .list (chD ws)] := Be K hm.c hm.w h1 h4
 have s0 : (Os [1, 2, 3, 4] (QF (Z3 K) (Qa (eOp 0) Qj))) [some (.sh (.list (iL ns))), none, none, none, none, none, none, none] = .ok .next [some (.sh (.list (iL ns))), some (.sh (.int n)), some (.sh (.list (chD chs))), some (.sh (.list (chD ws))), some (.sh (.int m)), none, none, none] := by
  refine Fc (d := .tup [.int n, .list (chD chs), .list (chD ws), .int m]) (ρ₁ := [some (.sh (.list (iL ns))), none, none, none, none, none, none, none]) ?_ rfl
  repeat' (first|(with_reducible first|assumption|exact Xa|exact Zi|exact QM|exact QJ|apply QR|exact XA|apply XB|exact QS|apply QL|exact QD|apply Qt|exact ZC|apply ZG|exact Qo|exact Qs|exact Xg|exact Q5|exact Qx|apply QK|apply QA|apply Q4|apply Qm|apply QG|apply QC|apply QW|apply Q1|apply QE|apply Xz|apply Zb|apply XF|apply Xy|apply Qz|apply Xe|apply QX|apply Q0|apply ValK.ok|apply Op2K.ok|apply Op2L.ok|apply OpNK.ok|apply CallK.ok|apply ConsBL.ok|apply ConsBK.ok|apply ConsL.ok|apply ConsK.ok|apply TupK.ok|apply LstK.ok|apply TruthK.ok|apply Test2L.ok|apply Test2K.ok|apply RetK.ok|apply AsgK.ok|exact NotK.t|apply OrK.f|apply SeqK.next|exact SeqK.ret|apply IfK.f|exact ix0|exact ix1)|exact Q9 rfl|exact (rfl : Qk _ = true)|exact QP rfl|exact (rfl : (_ : Option _) = some _)|decide)
 have s1 : (Vg 233 ["bells", "steps", "ways"] (Jo K) (Qa (eOp 1) (Qa (Qc (QQ Z0 (Qa (eOp 2) Qj))) (Qa (Qc (QQ Z0 (Qa (eOp 3) Qj))) Qj)))) [some (.sh (.list (iL ns))), some (.sh (.int n)), some (.sh (.list (chD chs))), some (.sh (.list (chD ws))), some (.sh (.int m)), none, none, none] = .ok (.sh (mth n chs ws)) [some (.sh (.list (iL ns))), some (.sh (.int n)), some (.sh (.list (chD chs))), some (.sh (.list (chD ws))), some (.sh (.int m)), none, none, none] := by
  refine EI (bs := [.var 1, .val (.list (chD chs)), .val (.list (chD ws))]) (ds := [.int n, .list (chD chs), .list (chD ws)]) ?_ ?_ rfl hI
  ·repeat' (first|(with_reducible first|assumption|exact Xa|exact Zi|exact QM|exact QJ|apply QR|exact XA|apply XB|exact QS|apply QL|exact QD|apply Qt|exact ZC|apply ZG|exact Qo|exact Qs|exact Xg|exact Q5|exact Qx|apply QK|apply QA|apply Q4|apply Qm|apply QG|apply QC|apply QW|apply Q1|apply QE|apply Xz|apply Zb|apply XF|apply Xy|apply Qz|apply Xe|apply QX|apply Q0|apply ValK.ok|apply Op2K.ok|apply Op2L.ok|apply OpNK.ok|apply CallK.ok|apply ConsBL.ok|apply ConsBK.ok|apply ConsL.ok|apply ConsK.ok|apply TupK.ok|apply LstK.ok|apply TruthK.ok|apply Test2L.ok|apply Test2K.ok|apply RetK.ok|apply AsgK.ok|exact NotK.t|apply OrK.f|apply SeqK.next|exact SeqK.ret|apply IfK.f|exact ix0|exact ix1)|exact Q9 rfl|exact (rfl : Qk _ = true)|exact QP rfl|exact (rfl : (_ : Option _) = some _)|decide)
  ·repeat' (first|(with_reducible first|assumption|exact Xa|exact Zi|exact QM|exact QJ|apply QR|exact XA|apply XB|exact QS|apply QL|exact QD|apply Qt|exact ZC|apply ZG|exact Qo|exact Qs|exact Xg|exact Q5|exact Qx|apply QK|apply QA|apply Q4|apply Qm|apply QG|apply QC|apply QW|apply Q1|apply QE|apply Xz|apply Zb|apply XF|apply Xy|apply Qz|apply Xe|apply QX|apply Q0|apply ValK.ok|apply Op2K.ok|apply Op2L.ok|apply OpNK.ok|apply CallK.ok|apply ConsBL.ok|apply ConsBK.ok|apply ConsL.ok|apply ConsK.ok|apply TupK.ok|apply LstK.ok|apply TruthK.ok|apply Test2L.ok|apply Test2K.ok|apply RetK.ok|apply AsgK.ok|exact NotK.t|apply OrK.f|apply SeqK.next|exact SeqK.ret|apply IfK.f|exact ix0|exact ix1)|exact Q9 rfl|exact (rfl : Qk _ = true)|exact QP rfl|exact (rfl : (_ : Option _) = some _)|decide)
 obtain ⟨x, q1, q2, q3⟩ := OP K hm hm1 h12
 have c1 : ZX [.tup [.str "touch", .list []]] = some (.sh (.int 2)) := rfl
 have c2 := V7 (i := 2)
 unfold BB EE
 cases hf : (Y5 ws.length m).find? fun t => ZF n chs ws [] (rng n) t with
 | some t =>
  obtain rfl := q2 t hf
  have hg : ZF n chs ws [] (rng n) t = true := List.find?_some hf
  obtain ⟨tl, tc⟩ := DL ws.length m t (List.mem_of_find?_eq_some hf)
  have q1 : Zx K [mth n chs ws, .int (m : Int)] = .ok (.sh (.tup [.str "touch", .list (nD t)])) := q1
  have q4 := Kn K hm tc (by omega) hg
  rw [tl] at q4
  have q5 := Yj (ds := nD t) (by rw [Zf]; omega)
  have q6 := JA (a := "touch") (b := "touch") (c := true) Zq Zq (by decide +kernel)
  have q7 : eqI (.tup [.str "touch", .list (nD t)]) (.tup [.str "touch", .list (nD t)]) = some (.sh (.bool true)) := DZ t
  have c3 : QV K [.tup [.str "touch", .list (nD t)], .glob (.type "tuple")] = some (.sh (.bool true)) := Zs K (.tup [.str "touch", .list (nD t)]) rfl
  have c4 : ZX [.tup [.str "touch", .list (nD t)]] = some (.sh (.int 2)) := rfl
  refine' Xc [some (.sh (.list (iL ns))), none, none, none, none, none, none, none] rfl rfl (?_ : _ = Res.ok (Fl.ret (T.sh (.bool true))) []) Q3
  refine (E9 s0).trans ((E9 (FU s1)).trans (if_pos ?_))
  show VI _ _ _ _ _ _ _ _ _ [some (.sh (.list (iL ns))), some (.sh (.int n)), some (.sh (.list (chD chs))), some (.sh (.list (chD ws))), some (.sh (.int m)), some (.sh (mth n chs ws)), none, none]
  refine ⟨[.var 5, .var 4], [mth n chs ws, .int (m : Int)], "touch", nD t, [some (.sh (.list (iL ns))), some (.sh (.int n)), some (.sh (.list (chD chs))), some (.sh (.list (chD ws))), some (.sh (.int m)), some (.sh (mth n chs ws)), some (.sh (.tup [.str "touch", .list (nD t)])), none], [some (.sh (.list (iL ns))), some (.sh (.int n)), some (.sh (.list (chD chs))), some (.sh (.list (chD ws))), some (.sh (.int m)), some (.sh (mth n chs ws)), some (.sh (.tup [.str "touch", .list (nD t)])), none], [some (.sh (.list (iL ns))), some (.sh (.int n)), some (.sh (.list (chD chs))), some (.sh (.list (chD ws))), some (.sh (.int m)), some (.sh (mth n chs ws)), some (.sh (.tup [.str "touch", .list (nD t)])), none], [some (.sh (.list (iL ns))), some (.sh (.int n)), some (.sh (.list (chD chs))), some (.sh (.list (chD ws))), some (.sh (.int m)), some (.sh (mth n chs ws)), some (.sh (.tup [.str "touch", .list (nD t)])), none], [some (.sh (.list (iL ns))), some (.sh (.int n)), some (.sh (.list (chD chs))), some (.sh (.list (chD ws))), some (.sh (.int m)), some (.sh (mth n chs ws)), none, some (.sh (.list (nD t)))], ⟨rfl, rfl, rfl, rfl⟩, ⟨Cl n m chs ws, q1, ?_, (CL t).1, by rw [Zf]; omega⟩, ?_, ?_, ?_, ?_, ?_⟩
  ·intro q
   have := congrArg List.length q
   rw [Zf, List.length_nil] at this
   omega
  ·refine atE [some (.sh (.list (iL ns))), some (.sh (.int n)), some (.sh (.list (chD chs))), some (.sh (.list (chD ws))), some (.sh (.int m)), some (.sh (mth n chs ws)), some (.sh (.tup [.str "touch", .list (nD t)])), none] ?_ rfl
   repeat' (first|(with_reducible first|assumption|exact Xa|exact Zi|exact QM|exact QJ|apply QR|exact XA|apply XB|exact QS|apply QL|exact QD|apply Qt|exact ZC|apply ZG|exact Qo|exact Qs|exact Xg|exact Q5|exact Qx|apply QK|apply QA|apply Q4|apply Qm|apply QG|apply QC|apply QW|apply Q1|apply QE|apply Xz|apply Zb|apply XF|apply Xy|apply Qz|apply Xe|apply QX|apply Q0|apply ValK.ok|apply Op2K.ok|apply Op2L.ok|apply OpNK.ok|apply CallK.ok|apply ConsBL.ok|apply ConsBK.ok|apply ConsL.ok|apply ConsK.ok|apply TupK.ok|apply LstK.ok|apply TruthK.ok|apply Test2L.ok|apply Test2K.ok|apply RetK.ok|apply AsgK.ok|exact NotK.t|apply OrK.f|apply SeqK.next|exact SeqK.ret|apply IfK.f|exact ix0|exact ix1)|exact Q9 rfl|exact (rfl : Qk _ = true)|exact QP rfl|exact (rfl : (_ : Option _) = some _)|decide)
  ·refine atE [some (.sh (.list (iL ns))), some (.sh (.int n)), some (.sh (.list (chD chs))), some (.sh (.list (chD ws))), some (.sh (.int m)), some (.sh (mth n chs ws)), some (.sh (.tup [.str "touch", .list (nD t)])), none] ?_ rfl
   repeat' (first|(with_reducible first|assumption|exact Xa|exact Zi|exact QM|exact QJ|apply QR|exact XA|apply XB|exact QS|apply QL|exact QD|apply Qt|exact ZC|apply ZG|exact Qo|exact Qs|exact Xg|exact Q5|exact Qx|apply QK|apply QA|apply Q4|apply Qm|apply QG|apply QC|apply QW|apply Q1|apply QE|apply Xz|apply Zb|apply XF|apply Xy|apply Qz|apply Xe|apply QX|apply Q0|apply ValK.ok|apply Op2K.ok|apply Op2L.ok|apply OpNK.ok|apply CallK.ok|apply ConsBL.ok|apply ConsBK.ok|apply ConsL.ok|apply ConsK.ok|apply TupK.ok|apply LstK.ok|apply TruthK.ok|apply Test2L.ok|apply Test2K.ok|apply RetK.ok|apply AsgK.ok|exact NotK.t|apply OrK.f|apply SeqK.next|exact SeqK.ret|apply IfK.f|exact ix0|exact ix1)|exact Q9 rfl|exact (rfl : Qk _ = true)|exact QP rfl|exact (rfl : (_ : Option _) = some _)|decide)
  ·refine atE [some (.sh (.list (iL ns))), some (.sh (.int n)), some (.sh (.list (chD chs))), some (.sh (.list (chD ws))), some (.sh (.int m)), some (.sh (mth n chs ws)), some (.sh (.tup [.str "touch", .list (nD t)])), none] ?_ rfl
   repeat' (first|(with_reducible first|assumption|exact Xa|exact Zi|exact QM|exact QJ|apply QR|exact XA|apply XB|exact QS|apply QL|exact QD|apply Qt|exact ZC|apply ZG|exact Qo|exact Qs|exact Xg|exact Q5|exact Qx|apply QK|apply QA|apply Q4|apply Qm|apply QG|apply QC|apply QW|apply Q1|apply QE|apply Xz|apply Zb|apply XF|apply Xy|apply Qz|apply Xe|apply QX|apply Q0|apply ValK.ok|apply Op2K.ok|apply Op2L.ok|apply OpNK.ok|apply CallK.ok|apply ConsBL.ok|apply ConsBK.ok|apply ConsL.ok|apply ConsK.ok|apply TupK.ok|apply LstK.ok|apply TruthK.ok|apply Test2L.ok|apply Test2K.ok|apply RetK.ok|apply AsgK.ok|exact NotK.t|apply OrK.f|apply SeqK.next|exact SeqK.ret|apply IfK.f|exact ix0|exact ix1)|exact Q9 rfl|exact (rfl : Qk _ = true)|exact QP rfl|exact (rfl : (_ : Option _) = some _)|decide)
  ·refine atE [some (.sh (.list (iL ns))), some (.sh (.int n)), some (.sh (.list (chD chs))), some (.sh (.list (chD ws))), some (.sh (.int m)), some (.sh (mth n chs ws)), some (.sh (.tup [.str "touch", .list (nD t)])), none] ?_ rfl
   repeat' (first|(with_reducible first|assumption|exact Xa|exact Zi|exact QM|exact QJ|apply QR|exact XA|apply XB|exact QS|apply QL|exact QD|apply Qt|exact ZC|apply ZG|exact Qo|exact Qs|exact Xg|exact Q5|exact Qx|apply QK|apply QA|apply Q4|apply Qm|apply QG|apply QC|apply QW|apply Q1|apply QE|apply Xz|apply Zb|apply XF|apply Xy|apply Qz|apply Xe|apply QX|apply Q0|apply ValK.ok|apply Op2K.ok|apply Op2L.ok|apply OpNK.ok|apply CallK.ok|apply ConsBL.ok|apply ConsBK.ok|apply ConsL.ok|apply ConsK.ok|apply TupK.ok|apply LstK.ok|apply TruthK.ok|apply Test2L.ok|apply Test2K.ok|apply RetK.ok|apply AsgK.ok|exact NotK.t|apply OrK.f|apply SeqK.next|exact SeqK.ret|apply IfK.f|exact ix0|exact ix1)|exact Q9 rfl|exact (rfl : Qk _ = true)|exact QP rfl|exact (rfl : (_ : Option _) = some _)|decide)
  ·refine atE [some (.sh (.list (iL ns))), some (.sh (.int n)), some (.sh (.list (chD chs))), some (.sh (.list (chD ws))), some (.sh (.int m)), some (.sh (mth n chs ws)), none, some (.sh (.list (nD t)))] ?_ rfl
   repeat' (first|(with_reducible first|assumption|exact Xa|exact Zi|exact QM|exact QJ|apply QR|exact XA|apply XB|exact QS|apply QL|exact QD|apply Qt|exact ZC|apply ZG|exact Qo|exact Qs|exact Xg|exact Q5|exact Qx|apply QK|apply QA|apply Q4|apply Qm|apply QG|apply QC|apply QW|apply Q1|apply QE|apply Xz|apply Zb|apply XF|apply Xy|apply Qz|apply Xe|apply QX|apply Q0|apply ValK.ok|apply Op2K.ok|apply Op2L.ok|apply OpNK.ok|apply CallK.ok|apply ConsBL.ok|apply ConsBK.ok|apply ConsL.ok|apply ConsK.ok|apply TupK.ok|apply LstK.ok|apply TruthK.ok|apply Test2L.ok|apply Test2K.ok|apply RetK.ok|apply AsgK.ok|exact NotK.t|apply OrK.f|apply SeqK.next|exact SeqK.ret|apply IfK.f|exact ix0|exact ix1)|exact Q9 rfl|exact (rfl : Qk _ = true)|exact QP rfl|exact (rfl : (_ : Option _) = some _)|decide)
 | none =>
  obtain ⟨d, rfl, hG⟩ := q3 hf
  obtain ⟨s, l, rfl, _⟩ := Ov hG
  have q4 : Xs K 14 [.list (chD chs), .list (chD ws), .int (m : Int), .tup (iL (rng n)), .list [], .tup (.str s :: l)] = .ok (.sh (.bool true)) := Ox K hm m 14 [] (rng n) _ (by omega) h12 (by simp; omega) (V2 hm.c.h3 hm.c.h12) hG
  have q5 := VT (Bt KK (C8 m hG)) (by omega)
  have q6 := JA (a := "none") (b := "touch") (c := false) KK Zq (by decide +kernel)
  have q7 := Fe
  have c3 : QV K [.tup [.str "none", .tup (.str s :: l)], .glob (.type "tuple")] = some (.sh (.bool true)) := Zs K (.tup [.str "none", .tup (.str s :: l)]) rfl
  have c4 : ZX [.tup [.str "none", .tup (.str s :: l)]] = some (.sh (.int 2)) := rfl
  have c5 : Xp [.int (n : Int)] = some (.sh (.range 0 n 1)) := rfl
  have c6 := Uu n (by have := hm.c.h12; omega)
  refine' Xc [some (.sh (.list (iL ns))), none, none, none, none, none, none, none] rfl rfl ?_ Q3
  refine (E9 s0).trans ((E9 (FU s1)).trans ((if_neg ?_).trans ?_))
  ·rintro ⟨bs, ds, w, ks, _, _, _, _, _, ⟨_, hfa, hds, _⟩, ⟨_, hF, _⟩, _⟩
   cases hfa
   cases hds
   have := q1.symm.trans hF
   cases this
  ·refine atE [some (.sh (.list (iL ns))), some (.sh (.int n)), some (.sh (.list (chD chs))), some (.sh (.list (chD ws))), some (.sh (.int m)), some (.sh (mth n chs ws)), none, none] ?_ rfl
   repeat' (first|(with_reducible first|assumption|exact Xa|exact Zi|exact QM|exact QJ|apply QR|exact XA|apply XB|exact QS|apply QL|exact QD|apply Qt|exact ZC|apply ZG|exact Qo|exact Qs|exact Xg|exact Q5|exact Qx|apply QK|apply QA|apply Q4|apply Qm|apply QG|apply QC|apply QW|apply Q1|apply QE|apply Xz|apply Zb|apply XF|apply Xy|apply Qz|apply Xe|apply QX|apply Q0|apply ValK.ok|apply Op2K.ok|apply Op2L.ok|apply OpNK.ok|apply CallK.ok|apply ConsBL.ok|apply ConsBK.ok|apply ConsL.ok|apply ConsK.ok|apply TupK.ok|apply LstK.ok|apply TruthK.ok|apply Test2L.ok|apply Test2K.ok|apply RetK.ok|apply AsgK.ok|exact NotK.t|apply OrK.f|apply SeqK.next|exact SeqK.ret|apply IfK.f|exact ix0|exact ix1)|exact Q9 rfl|exact (rfl : Qk _ = true)|exact QP rfl|exact (rfl : (_ : Option _) = some _)|decide)
end Mine
end

section
set_option Elab.async false
set_option maxRecDepth 100000
theorem PySem.Challenge.cw_uf010040_11_holds : PySem.Challenge.rw_uf010040_11.Holds :=
 Mine.law11_enter fun _ ns hl => Mine.law11_plain _ ns hl
end
