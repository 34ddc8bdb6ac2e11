import PyProof.Rows.All
import OpenK.AllK
import PyProof.StationsW
import PyProof.Cells
import PyProof.Walks
import PyProof.WalksMore
import PyProof.RangeIter
import PyProof.Rows.Frame
import PyProof.ListIndex
import PyProof.Rules2
import PyProof.Rules3
import PyProof.PureInt
import PyProof.IsRules
import PyProof.EqLayable
import PyProof.Rows.RuleB_mul
import PyProof.Rows.RuleB_mod
import PyProof.Rows.RuleB_floordiv
import PyProof.Rows.RuleB_small
import PyProof.Rows.EqDataRows
import PyProof.NoPylong
import PyProof.RulesDelMore
import PyProof.ForAny
import PyProof.RulesAs
import PyProof.NsDelKeeps
import PyProof.SliceMore
import PyProof.Rows.TupMore
import PyProof.Rows.TupSub
import PyProof.Rows.StrTemp
import PyProof.Rows.TupAdd
import PyProof.ListIndexNeg
import PyProof.ListMulAny
import PyProof.Rows.ListMul
import PyProof.ListRange
import PyProof.TupleOfSeq
import PyProof.ListCopy
import PyProof.RangeFor
import PyProof.ConsumeWalk
import PyProof.CallStr
import PyProof.Rows.SortWalk
import PyProof.Rows.Lst
import PyProof.Rows.Range3
import PyProof.Rows.ListMade
import PyProof.ListOps
import PyProof.CallRoads
import PyProof.Rows.TupAssign
import PyProof.EnumMake
import PyProof.Draws
import PyProof.Rows.TupIter
import PyProof.CompFree
import PyProof.CompUse
import KE.KRevSl
import PyProof.P3In
import PyProof.SliceStr2
import PyProof.StrOps
import PyProof.Rows.StrWeight2
import PyProof.Rows.StrIndexOr
import PyProof.StrLoop
import PyProof.StrWalks
import PyProof.Rows.StrMadeLen
import PyProof.Rows.SortStr
import PyProof.CollectStr
import PyProof.ListStr
import PyProof.DictRoadsH
import PyProof.MeetsDict
import PyProof.DictKinds
import PyProof.FactsAll.dict_0
import PyProof.FactsAll.dict_3
import PyProof.InstStore
import KE.KRevIter
import PyProof.Conv_int_bool
import PyProof.EqAt
import PyProof.FactsAll.list_3
import Wide.All
import Open.Head
import Wide.FinOn
import PySem.Challenge.RW_uf010040_08
section
set_option Elab.async false
set_option maxRecDepth 100000
namespace Mine
open PySem PySem.W
section
variable {prog : Program} {w : World} {A : Around} {E : Value → Shared → Prop} {h : Heap} {g : Array GenState} {d : Drawn} {t : Nat} {os : OsState} {a C : Addr} {o : Obj} {K : Frag}
theorem xc_check {M : Model} {nameV : Value} {Q : Unit → Shared → Prop} (X : K.In h) (hx : h.get? a = some o) (hc : o.cls = .ref C) (hm : mroIn K C (.type "BaseException") = some true)
    (hq : Q () ⟨h, g, d, t, os⟩) : wpAny M A (checkBuiltinCall "BaseException.__getattribute__" ⟨[.ref a, nameV], []⟩) Q E ⟨h, g, d, t, os⟩ := by
  have hk : builtinKind "BaseException.__getattribute__" = some .slot := by decide +kernel
  have hsplit : splitId "BaseException.__getattribute__" = some ("BaseException", "__getattribute__") := by decide +kernel
  have ha := F.args_bexc_ga (.ref a) nameV
  have L1 := looks_mroIn (M := M) X hm
  simp only [checkBuiltinCall, hk, hsplit]
  refine wpAny_bind ?_
  unfold isInstance
  repeat (first | (with_reducible refine wpAny_loadPart_at hx ?_; rw [hc]) | (with_reducible refine L1.at ?_) | wp_step)
  exact hq
theorem xc_get {R : Result → Shared → Prop} {tp : Value} (X : K.In h) (hx : h.get? a = some o) (hc : o.cls = .ref C) (hm : mroIn K C (.type "object") = some true) (hn : notCls o = true) (hd : o.dict = none)
    (hq : R (.ok (.ret (.ref C))) ⟨h, g, d, t, os⟩) : codeAny (model prog w) A (.call (.builtin "getset_descriptor.__get__") ⟨[.builtin "object.__class__", .ref a, tp], []⟩) R ⟨h, g, d, t, os⟩ :=
  class_get (ox := o) (od := none) X ⟨hx, hc, hn, by rw [hd]; trivial⟩ hm hq
theorem xc_entry {tk : Tok} {Q : Fin → Shared → Prop} (X : K.In h) (hx : h.get? a = some o) (hc : o.cls = .ref C) (hm : mroIn K C (.type "object") = some true) (hn : notCls o = true) (hd : o.dict = none)
    (hf : findObj K C none "__class__" = some (.bind (.builtin "getset_descriptor.__get__") (.builtin "object.__class__"))) (hq : Q (.done (.ret (.ref C))) ⟨h, g, d, t, os⟩) :
    wpAny (model prog w) A (Builtin.«object.__getattribute__» ⟨[.ref a, .str "__class__" tk], []⟩) Q E ⟨h, g, d, t, os⟩ := by
  have I : InstAt h a o C none := ⟨hx, hc, hn, by rw [hd]; trivial⟩
  have L0 := I.type (M := model prog w)
  have L1 := looks_find (M := model prog w) X I hf
  unfold Builtin.«object.__getattribute__»
  refine wpAny_bind (wpAny_pure ?_)
  refine wpAny_bind (m := Builtin.ObjectAttr.attrName _) (wpAny_pure ?_)
  refine wpAny_bind (L0.at (wpAny_bind (L1.at ?_)))
  show wpAny _ _ (holding [Value.builtin "object.__class__"] (call (.builtin "getset_descriptor.__get__") [.builtin "object.__class__", .ref a, .ref C]) >>= ret) _ _ _
  exact wpAny_bind (wpAny_holding (wpAny_call (xc_get X hx hc hm hn hd (wpAny_pure hq))))
theorem xc_by {tk : Tok} {fill expr : Bool} {Q : Value → Shared → Prop} (X : K.In h) (hx : h.get? a = some o) (hc : o.cls = .ref C) (hm : mroIn K C (.type "object") = some true) (hmb : mroIn K C (.type "BaseException") = some true) (hn : notCls o = true) (hd : o.dict = none)
    (hga : findIn K (.ref C) "__getattribute__" = some (some (.builtin "BaseException.__getattribute__"))) (hgt : findIn K (.ref C) "__getattr__" = some none)
    (hf : findObj K C none "__class__" = some (.bind (.builtin "getset_descriptor.__get__") (.builtin "object.__class__"))) (hq : Q (.ref C) ⟨h, g, d, t, os⟩) :
    wpAny (model prog w) A (getAttrBy (.ref a) (.str "__class__" tk) fill expr) Q E ⟨h, g, d, t, os⟩ := by
  have I : InstAt h a o C none := ⟨hx, hc, hn, by rw [hd]; trivial⟩
  have L0 := I.type (M := model prog w)
  have L1 := looks_findIn (M := model prog w) X hga
  have L2 := looks_findIn (M := model prog w) X hgt
  have f3 := F.excAttr_ValueError.ga.bind (.ref a)
  have hx0 : (expr && onTheHeap (Value.builtin "BaseException.__getattribute__")) = false := by cases expr <;> rfl
  have hx2 : (Value.builtin "BaseException.__getattribute__" == Value.builtin "object.__getattribute__") = false := by decide +kernel
  have hx1 : (onTheHeap (Value.ref C) && Value.builtin "BaseException.__getattribute__" == Value.builtin "object.__getattribute__") = false := by rw [hx2]; rfl
  repeat (any_goals (first | assumption | (with_reducible refine L0.at ?_) | (with_reducible refine L1.at ?_) | (with_reducible refine L2.at ?_) | wp_step))
  refine codeAny_call_builtin F.excAttr_ValueError.ga.plain F.entry_bexc_ga (xc_check X hx hc hmb (xc_entry X hx hc hm hn hd hf ?_))
  show wpAny _ _ (handedOut (.ref C)) _ _ _
  exact handed_on rfl hq
theorem kitx_exc (hm : mroIn K C (.type "object") = some true) (hmb : mroIn K C (.type "BaseException") = some true) (hcl : (clsIn K C).isSome = true)
    (hga : findIn K (.ref C) "__getattribute__" = some (some (.builtin "BaseException.__getattribute__"))) (hgt : findIn K (.ref C) "__getattr__" = some none)
    (hf : findObj K C none "__class__" = some (.bind (.builtin "getset_descriptor.__get__") (.builtin "object.__class__"))) :
    KitX K (.ref a) (.ref C) (fun h => ∃ o, h.get? a = some o ∧ o.cls = .ref C ∧ notCls o = true ∧ o.dict = none) where
  ty := fun _ _ _ I => by obtain ⟨o, h1, h2, h3, h4⟩ := I; exact InstAt.type (od := none) ⟨h1, h2, h3, by rw [h4]; trivial⟩
  it := fun M h X _ => by
    unfold clsIn at hcl
    split at hcl
    · rename_i ho
      intro A' Q' E' s' k q
      unfold isType loadHead
      exact wpAny_bind (wpAny_loadPart (k _ _ (X _ _ ho)) (wpAny_pure q))
    · cases hcl
  ne := fun h tp dd its n sl X e => by
    unfold clsIn at hcl
    split at hcl
    · rename_i ho
      refine Bool.eq_false_iff.mpr fun q => ?_
      cases beq_iff_eq.mp q
      rw [X _ _ ho] at e; cases e
    · cases hcl
  ca := fun {prog w A E Q s} X I k => by
    obtain ⟨o, h1, h2, h3, h4⟩ := I
    obtain ⟨h, g, d, t, os⟩ := s
    unfold getAttr? getAttrBy?
    refine wpAny_bind (wpAny_mkText (wpAny_bind (wpAny_attempt ?_)))
    exact xc_by X h1 h2 hm hmb h3 h4 hga hgt hf (wpAny_pure k)
noncomputable def excAsk (K : Frag) (C : Addr) : Bool := mroIn K C (.type "object") == some true && mroIn K C (.type "BaseException") == some true && (clsIn K C).isSome && findIn K (.ref C) "__getattribute__" == some (some (.builtin "BaseException.__getattribute__")) &&
  findIn K (.ref C) "__getattr__" == some none && (match findObj K C none "__class__" with | some (.bind g a) => g == .builtin "getset_descriptor.__get__" && a == .builtin "object.__class__" | _ => false)
theorem kitx_of_ask (e : excAsk K C = true) : KitX K (.ref a) (.ref C) (fun h => ∃ o, h.get? a = some o ∧ o.cls = .ref C ∧ notCls o = true ∧ o.dict = none) := by
  unfold excAsk at e
  simp only [Bool.and_eq_true, beq_iff_eq] at e
  obtain ⟨⟨⟨⟨⟨h1, h2⟩, h3⟩, h4⟩, h5⟩, h6⟩ := e
  refine kitx_exc h1 h2 h3 h4 h5 ?_
  split at h6
  · rename_i gg aa hf
    rw [Bool.and_eq_true, beq_iff_eq, beq_iff_eq] at h6
    rw [hf, h6.1, h6.2]
  · cases h6
theorem wp_excMatches {M : Model} {C' : Addr} {b : Bool} {Q : Bool → Shared → Prop} {s : Shared} (X : K.In s.heap) (hx : s.heap.get? a = some o) (hc : o.cls = .ref C) (hty : typeIn K (.ref C') = some (.type "type")) (hcl : (clsIn K C').isSome = true) (hbe : mroIn K C' (.type "BaseException") = some true)
    (hs : mroIn K C (.ref C') = some b) (hq : Q b s) : wpAny M A (excMatches (.ref a) (.ref C')) Q E s := by
  have L1 := looks_typeIn (M := M) X hty
  have L2 : Looks M s.heap (isSubtype (.type "type") (.type "tuple")) false := looks_subIn (K := K) X (by kernel_rfl)
  have L3 : Looks M s.heap (isType (.ref C')) true := by
    unfold clsIn at hcl
    split at hcl
    · rename_i ho
      intro A' Q' E' s' k q
      unfold isType loadHead
      exact wpAny_bind (wpAny_loadPart (k _ _ (X _ _ ho)) (wpAny_pure q))
    · cases hcl
  have L4 := looks_mroIn (M := M) X hbe
  have L5 : Looks M s.heap (typeOf (.ref a)) (.ref C) := by have := (Looks.ld (M := M) (part := some headPart) hx).andThen (f := fun o => pure o.cls) .now; rw [hc] at this; exact this
  have L6 := looks_mroIn (M := M) X hs
  unfold excMatches
  refine wpAny_bind ((L1.andThen (f := fun t => isSubtype t (.type "tuple")) L2).here ?_)
  simp only [Bool.false_eq_true, if_false]
  refine wpAny_bind (wpAny_pure ?_)
  rw [List.forIn_cons]
  refine wpAny_bind (wpAny_bind ?_)
  show wpAny _ _ (isExcClass (.ref C') >>= _) _ _ _
  refine wpAny_bind ?_
  unfold isExcClass
  refine wpAny_bind (L3.here ?_)
  simp only [if_true]
  refine L4.here ?_
  simp only [Bool.not_true, Bool.false_eq_true, if_false]
  refine wpAny_pure ?_
  dsimp only
  rw [List.forIn_nil]
  refine wpAny_pure (wpAny_bind (L5.here ?_))
  rw [List.forIn_cons]
  refine wpAny_bind (wpAny_bind (wpAny_bind (L6.here ?_)))
  cases b with
  | true => simp only [if_true]; exact wpAny_pure (wpAny_pure (wpAny_pure hq))
  | false => simp only [Bool.false_eq_true, if_false]; exact wpAny_pure (by dsimp only; rw [List.forIn_nil]; exact wpAny_pure (wpAny_pure hq))
end
end Mine
end

section
set_option Elab.async false
set_option maxRecDepth 100000
namespace Mine
open PySem
theorem nn {α : Type} {a : α} {P : Prop} (h : (Option.none : Option α) = Option.some a) : P := by cases h
theorem ifs {c : Prop} [Decidable c] {α : Type} {a : Option α} {t : α} (h : (if c then a else none) = some t) : c ∧ a = some t := by
  by_cases hc : c
  · rw [if_pos hc] at h; exact ⟨hc, h⟩
  · rw [if_neg hc] at h; exact nn h
inductive D where
  | none
  | bool (b : Bool)
  | int (i : Int)
  | str (x : Str)
  | tup (ds : List D)
  | list (ds : List D)
  | range (lo hi st : Int)
  | exc (C : Addr)
  | glob (v : Value)
  | dict (ks : List (List Int)) (ds : List D)
  | obj (C : Addr) (ns : List Str) (ds : List D)
noncomputable def asI : D → Option Int
  | .int i => some i
  | _ => none
theorem asI_inv {x : D} {i : Int} (e : asI x = some i) : x = .int i := by
  cases x <;> first | (cases e; rfl) | exact nn e
inductive T where
  | sh (d : D)
  | ow (m : Bool) (d : D)
noncomputable def T.val : T → D
  | .sh d => d
  | .ow _ d => d
noncomputable def T.get : T → Option D
  | .sh d => some d
  | .ow _ (.list ds) => some (.list ds)
  | .ow _ _ => none
noncomputable def isIntD : D → Bool
  | .int _ => true
  | _ => false
noncomputable def Bare (o : Obj) (ds : List D) : Prop := o.dict = Option.none ∨ ds.all isIntD = true
noncomputable def NotDict (o : Obj) : Prop := ∀ es n, o.data ≠ .dict es n
theorem NotDict.seq {o : Obj} {vs : Array Value} {n : Nat} (h : o.data = .seq vs n) : NotDict o := fun es m q => by rw [h] at q; cases q
theorem NotDict.fields {o : Obj} {vs : Array Value} (h : o.data = .fields vs) : NotDict o := fun es m q => by rw [h] at q; cases q
noncomputable def Kp (h h' : Heap) : Prop := ∀ b o, h.get? b = some o → ∃ sl, h'.get? b = some { o with slots := sl } ∧ (NotDict o → sl = o.slots)
theorem Kp.trans {h₁ h₂ h₃ : Heap} (x : Kp h₁ h₂) (y : Kp h₂ h₃) : Kp h₁ h₃ := fun b o e => by
  obtain ⟨sl, e₁, q₁⟩ := x b o e
  obtain ⟨sl', e₂, q₂⟩ := y b _ e₁
  exact ⟨sl', e₂, fun hc => (q₂ hc).trans (q₁ hc)⟩
theorem Kp.of_keeps {h h' : Heap} (k : ∀ b o, h.get? b = some o → h'.get? b = some o) : Kp h h' := fun b o e => ⟨o.slots, k b o e, fun _ => rfl⟩
theorem Kp.exact {h h' : Heap} (x : Kp h h') {b : Addr} {o : Obj} (e : h.get? b = some o) (hc : NotDict o) : h'.get? b = some o := by
  obtain ⟨sl, e₁, q⟩ := x b o e
  rw [q hc] at e₁; exact e₁
theorem Kp.dom {h h' : Heap} (x : Kp h h') {b : Addr} {o : Obj} (e : h.get? b = some o) : ∃ o', h'.get? b = some o' := let ⟨_, e₁, _⟩ := x b o e; ⟨_, e₁⟩
theorem Kp.ns {h h' : Heap} (x : Kp h h') {a : Addr} {m : Str → Option Value} (hn : h.Ns a m) : h'.Ns a m := by
  obtain ⟨o, es, ep, ho, hd, r⟩ := hn
  obtain ⟨sl, e₁, _⟩ := x a o ho
  exact ⟨_, es, ep, e₁, hd, r⟩
theorem Kp.cell {h h' : Heap} (x : Kp h h') {c : Addr} {v : Option Value} (hn : h.IsCell c v) : h'.IsCell c v := by
  obtain ⟨o, ho, hd⟩ := hn
  obtain ⟨sl, e₁, _⟩ := x c o ho
  exact ⟨_, e₁, hd⟩
theorem Kp.none {h h' : Heap} (x : Kp h h') {b : Addr} (e : h'.get? b = none) : h.get? b = none := by
  cases q : h.get? b with
  | none => rfl
  | some o => obtain ⟨_, e₁, _⟩ := x b o q; rw [e] at e₁; cases e₁
noncomputable def Imm (o : Obj) : Prop := (o.cls = .type "tuple" ∧ ∃ vs n, o.data = .seq vs n) ∨ ∃ vs, o.data = .fields vs
mutual
inductive RV (S : Addr → Prop) (h : Heap) : Value → D → Prop
  | none : RV S h .none .none
  | bool (b : Bool) : RV S h (.bool b) (.bool b)
  | int (i : Int) (t : Tok) : RV S h (.int i t) (.int i)
  | str (x : Str) (t : Tok) : RV S h (.str x t) (.str x)
  | tup {a : Addr} {o : Obj} {vs : Array Value} {n : Nat} {ds : List D} : h.get? a = some o → o.cls = .type "tuple" → o.data = .seq vs n → RVs S h vs.toList ds → RV S h (.ref a) (.tup ds)
  | list {a : Addr} {o : Obj} {vs : Array Value} {n : Nat} {ds : List D} : S a → h.get? a = some o → (o.cls = .type "list" ∧ Bare o ds) → o.data = .seq vs n → RVs S h vs.toList ds → RV S h (.ref a) (.list ds)
  | range {a : Addr} {lo hi st : Int} {t u v : Tok} : IsRange h a lo hi st t u v → RV S h (.ref a) (.range lo hi st)
  | exc {a : Addr} {o : Obj} {vs : Array Value} {C : Addr} : h.get? a = some o → o.cls = .ref C → o.dict = none → o.data = .fields vs → vs[2]? = some .none → RV S h (.ref a) (.exc C)
  | glob (v : Value) : (∀ a, v = .ref a → ∃ o, h.get? a = some o) → RV S h v (.glob v)
  | obj {a dx C : Addr} {m : Str → Option Value} {ns : List Str} {vs : List Value} {ds : List D} : S a → S dx → h.get? a = some (W.instObj C dx) → h.Ns dx m → (ns.map m = vs.map some ∧ ∀ y, y ∉ ns → m y = Option.none) → RVs S h vs ds → RV S h (.ref a) (.obj C ns ds)
inductive RVs (S : Addr → Prop) (h : Heap) : List Value → List D → Prop
  | nil : RVs S h [] []
  | cons {v : Value} {d : D} {vs : List Value} {ds : List D} : RV S h v d → RVs S h vs ds → RVs S h (v :: vs) (d :: ds)
end
structure Ext (S : Addr → Prop) (h : Heap) (S' : Addr → Prop) (h' : Heap) : Prop where
  sub : ∀ b, S b → S' b
  keep : ∀ b o, h.get? b = some o → (S b ∨ Imm o) → ∃ sl, h'.get? b = some { o with slots := sl } ∧ (NotDict o → sl = o.slots)
  dom : ∀ b o, h.get? b = some o → ∃ o', h'.get? b = some o'
theorem Ext.exact {S : Addr → Prop} {h : Heap} {S' : Addr → Prop} {h' : Heap} (x : Ext S h S' h') {b : Addr} {o : Obj} (e : h.get? b = some o) (q : S b ∨ Imm o) (hn : NotDict o) : h'.get? b = some o := by
  obtain ⟨sl, e₁, k⟩ := x.keep b o e q
  rw [k hn] at e₁; exact e₁
theorem Ext.ns {S : Addr → Prop} {h : Heap} {S' : Addr → Prop} {h' : Heap} (x : Ext S h S' h') {a : Addr} {m : Str → Option Value} (q : S a) (hn : h.Ns a m) : h'.Ns a m := by
  obtain ⟨o, es, ep, ho, hd, r⟩ := hn
  obtain ⟨sl, e₁, _⟩ := x.keep a o ho (.inl q)
  exact ⟨_, es, ep, e₁, hd, r⟩
theorem Ext.refl (S : Addr → Prop) (h : Heap) : Ext S h S h := ⟨fun _ x => x, fun _ o e _ => ⟨o.slots, e, fun _ => rfl⟩, fun _ o e => ⟨o, e⟩⟩
theorem Ext.trans {S₁ S₂ S₃ : Addr → Prop} {h₁ h₂ h₃ : Heap} (x : Ext S₁ h₁ S₂ h₂) (y : Ext S₂ h₂ S₃ h₃) : Ext S₁ h₁ S₃ h₃ :=
  ⟨fun b q => y.sub b (x.sub b q), fun b o e q => by
    obtain ⟨sl, e₁, k₁⟩ := x.keep b o e q
    obtain ⟨sl', e₂, k₂⟩ := y.keep b _ e₁ (q.imp (x.sub b) id)
    exact ⟨sl', e₂, fun hn => (k₂ hn).trans (k₁ hn)⟩, fun b o e => let ⟨o', e'⟩ := x.dom b o e; y.dom b o' e'⟩
theorem Ext.none {S S' : Addr → Prop} {h h' : Heap} (x : Ext S h S' h') {b : Addr} (e : h'.get? b = none) : h.get? b = none := by
  cases q : h.get? b with
  | none => rfl
  | some o => obtain ⟨_, e₁⟩ := x.dom b o q; rw [e] at e₁; cases e₁
structure Carry (S : Addr → Prop) (h : Heap) (S' : Addr → Prop) (h' : Heap) : Prop where
  tup : ∀ {a : Addr} {o : Obj} {vs : Array Value} {n : Nat}, h.get? a = some o → o.cls = .type "tuple" → o.data = .seq vs n → h'.get? a = some o
  list : ∀ {a : Addr} {o : Obj} {vs : Array Value} {n : Nat}, S a → h.get? a = some o → o.cls = .type "list" → o.data = .seq vs n → S' a ∧ h'.get? a = some o
  range : ∀ {a : Addr} {lo hi st : Int} {t u v : Tok}, IsRange h a lo hi st t u v → IsRange h' a lo hi st t u v
  exc : ∀ {a : Addr} {o : Obj} {vs : Array Value} {C : Addr}, h.get? a = some o → o.cls = .ref C → o.dict = none → o.data = .fields vs → vs[2]? = some .none → RV S' h' (.ref a) (.exc C)
  dom : ∀ a o, h.get? a = some o → ∃ o', h'.get? a = some o'
  obj : ∀ {a dx C : Addr} {m : Str → Option Value}, S a → S dx → h.get? a = some (W.instObj C dx) → h.Ns dx m → S' a ∧ S' dx ∧ h'.get? a = some (W.instObj C dx) ∧ h'.Ns dx m
section
variable {S S' : Addr → Prop} {h h' : Heap}
theorem RV.map (x : Carry S h S' h') {v : Value} {d : D} (q : RV S h v d) : RV S' h' v d :=
  RV.rec (motive_1 := fun v d _ => RV S' h' v d) (motive_2 := fun vs ds _ => RVs S' h' vs ds) .none .bool .int .str (fun e hc hd _ r => .tup (x.tup e hc hd) hc hd r) (fun hs e hc hd _ r => .list (x.list hs e hc.1 hd).1 (x.list hs e hc.1 hd).2 hc hd r) (fun e => .range (x.range e)) (fun e hc hn hd r => x.exc e hc hn hd r) (fun v hv => .glob v fun a e => let ⟨o, e'⟩ := hv a e; x.dom a o e') (fun s1 s2 e n hm _ r => let ⟨t1, t2, e', n'⟩ := x.obj s1 s2 e n; .obj t1 t2 e' n' hm r) .nil (fun _ _ a b => .cons a b) q
theorem RVs.map (x : Carry S h S' h') {vs : List Value} {ds : List D} (q : RVs S h vs ds) : RVs S' h' vs ds :=
  RVs.rec (motive_1 := fun v d _ => RV S' h' v d) (motive_2 := fun vs ds _ => RVs S' h' vs ds) .none .bool .int .str (fun e hc hd _ r => .tup (x.tup e hc hd) hc hd r) (fun hs e hc hd _ r => .list (x.list hs e hc.1 hd).1 (x.list hs e hc.1 hd).2 hc hd r) (fun e => .range (x.range e)) (fun e hc hn hd r => x.exc e hc hn hd r) (fun v hv => .glob v fun a e => let ⟨o, e'⟩ := hv a e; x.dom a o e') (fun s1 s2 e n hm _ r => let ⟨t1, t2, e', n'⟩ := x.obj s1 s2 e n; .obj t1 t2 e' n' hm r) .nil (fun _ _ a b => .cons a b) q
theorem Ext.carry (x : Ext S h S' h') : Carry S h S' h' where
  tup := fun e hc hd => x.exact e (.inr (.inl ⟨hc, _, _, hd⟩)) (.seq hd)
  list := fun hs e hc hd => ⟨x.sub _ hs, x.exact e (.inl hs) (.seq hd)⟩
  range := fun e => x.exact e (.inr (.inr ⟨_, rfl⟩)) (.fields rfl)
  exc := fun e hc hn hd r => .exc (x.exact e (.inr (.inr ⟨_, hd⟩)) (.fields hd)) hc hn hd r
  dom := x.dom
  obj := fun s1 s2 e n => ⟨x.sub _ s1, x.sub _ s2, x.exact e (.inl s1) (fun es m q => by cases q), x.ns s2 n⟩
theorem RV.ext (x : Ext S h S' h') {v : Value} {d : D} (q : RV S h v d) : RV S' h' v d := q.map x.carry
theorem RVs.ext (x : Ext S h S' h') {vs : List Value} {ds : List D} (q : RVs S h vs ds) : RVs S' h' vs ds := q.map x.carry
end
theorem Ext.of_keeps {S : Addr → Prop} {h h' : Heap} (k : ∀ b o, h.get? b = some o → h'.get? b = some o) : Ext S h S h' := ⟨fun _ q => q, fun b o e _ => ⟨o.slots, k b o e, fun _ => rfl⟩, fun b o e => ⟨o, k b o e⟩⟩
theorem Ext.of_kp {S : Addr → Prop} {h h' : Heap} (k : Kp h h') : Ext S h S h' := ⟨fun _ q => q, fun b o e _ => k b o e, fun _ _ e => k.dom e⟩
theorem Ext.grow {S S' : Addr → Prop} {h : Heap} (q : ∀ b, S b → S' b) : Ext S h S' h := ⟨q, fun _ o e _ => ⟨o.slots, e, fun _ => rfl⟩, fun _ o e => ⟨o, e⟩⟩
theorem RV.live {S : Addr → Prop} {h : Heap} {v : Value} {d : D} (q : RV S h v d) : ∀ a, v = .ref a → ∃ o, h.get? a = some o := by
  intro a e
  cases q with
  | tup q _ _ _ => cases e; exact ⟨_, q⟩
  | list _ q _ _ _ => cases e; exact ⟨_, q⟩
  | range q => cases e; exact ⟨_, q⟩
  | exc q _ _ _ _ => cases e; exact ⟨_, q⟩
  | glob v q => exact q a e
  | obj _ _ q _ _ _ => cases e; exact ⟨_, q⟩
  | _ => cases e
theorem RVs.length {S : Addr → Prop} {h : Heap} {vs : List Value} : ∀ {ds : List D}, RVs S h vs ds → vs.length = ds.length := by
  induction vs with
  | nil => intro ds q; cases q; rfl
  | cons v vs ih => intro ds q; cases q with | cons _ r => exact congrArg (· + 1) (ih r)
theorem RVs.append {S : Addr → Prop} {h : Heap} {ws : List Value} {es : List D} (k : RVs S h ws es) {vs : List Value} : ∀ {ds : List D}, RVs S h vs ds → RVs S h (vs ++ ws) (ds ++ es) := by
  induction vs with
  | nil => intro ds q; cases q; exact k
  | cons v vs ih => intro ds q; cases q with | cons q r => exact .cons q (ih r)
theorem RVs.get {S : Addr → Prop} {h : Heap} {vs : List Value} : ∀ {ds : List D}, RVs S h vs ds → ∀ {k : Nat} {d : D}, ds[k]? = some d → ∃ v, vs[k]? = some v ∧ RV S h v d := by
  induction vs with
  | nil => intro ds q k d e; cases q; cases e
  | cons v vs ih =>
    intro ds q k d e
    cases q with
    | cons q r =>
      cases k with
      | zero => cases e; exact ⟨v, rfl, q⟩
      | succ k => exact ih r e
theorem RVs.drop {S : Addr → Prop} {h : Heap} {vs : List Value} : ∀ {ds : List D}, RVs S h vs ds → ∀ (k : Nat), RVs S h (vs.drop k) (ds.drop k) := by
  induction vs with
  | nil => intro ds q k; cases q; rw [List.drop_nil, List.drop_nil]; exact .nil
  | cons v vs ih =>
    intro ds q k
    cases q with
    | cons q r =>
      cases k with
      | zero => exact .cons q r
      | succ k => exact ih r k
theorem RVs.take {S : Addr → Prop} {h : Heap} {vs : List Value} : ∀ {ds : List D}, RVs S h vs ds → ∀ (k : Nat), RVs S h (vs.take k) (ds.take k) := by
  induction vs with
  | nil => intro ds q k; cases q; rw [List.take_nil, List.take_nil]; exact .nil
  | cons v vs ih =>
    intro ds q k
    cases q with
    | cons q r =>
      cases k with
      | zero => exact .nil
      | succ k => exact .cons q (ih r k)
theorem RVs.set {S : Addr → Prop} {h : Heap} {w : Value} {e : D} (k : RV S h w e) {vs : List Value} : ∀ {ds : List D}, RVs S h vs ds → ∀ (i : Nat), RVs S h (vs.set i w) (ds.set i e) := by
  induction vs with
  | nil => intro ds q i; cases q; exact .nil
  | cons v vs ih =>
    intro ds q i
    cases q with
    | cons q r =>
      cases i with
      | zero => exact .cons k r
      | succ i => exact .cons q (ih r i)
theorem RVs.eraseIdx {S : Addr → Prop} {h : Heap} {vs : List Value} : ∀ {ds : List D}, RVs S h vs ds → ∀ (i : Nat), RVs S h (vs.eraseIdx i) (ds.eraseIdx i) := by
  induction vs with
  | nil => intro ds q i; cases q; exact .nil
  | cons v vs ih =>
    intro ds q i
    cases q with
    | cons q r =>
      cases i with
      | zero => exact r
      | succ i => exact .cons q (ih r i)
theorem RVs.mem {S : Addr → Prop} {h : Heap} {vs : List Value} : ∀ {ds : List D}, RVs S h vs ds → ∀ {v : Value}, v ∈ vs → ∃ d, d ∈ ds ∧ RV S h v d := by
  induction vs with
  | nil => intro ds q v m; cases m
  | cons w vs ih =>
    intro ds q v m
    cases q with
    | cons q r =>
      rcases List.mem_cons.mp m with e | m
      · subst e; exact ⟨_, .head _, q⟩
      · obtain ⟨d, hd, q⟩ := ih r m; exact ⟨d, .tail _ hd, q⟩
noncomputable def Var (env : Env) (h : Heap) (x : Str) (v : Value) : Prop :=
  (env.kindOf x = some .local ∧ ∃ m, h.Ns env.locals m ∧ m x = some v) ∨
  ((env.kindOf x = some .cell ∨ env.kindOf x = some .free) ∧ ∃ c, env.cells.lookup x = some c ∧ h.IsCell c (some v))
theorem Var.kp {env : Env} {h h' : Heap} (k : Kp h h') {x : Str} {v : Value} (q : Var env h x v) : Var env h' x v := by
  rcases q with ⟨a, m, b, c⟩ | ⟨a, c, b, d⟩
  · exact .inl ⟨a, m, k.ns b, c⟩
  · exact .inr ⟨a, c, b, k.cell d⟩
theorem IsCell.inj {h : Heap} {c : Addr} {v v' : Option Value} (a : h.IsCell c v) (b : h.IsCell c v') : v = v' := by
  obtain ⟨o, ho, hd⟩ := a
  obtain ⟨o', ho', hd'⟩ := b
  rw [ho] at ho'; cases ho'
  rw [hd] at hd'; cases hd'; rfl
theorem Var.inj {env : Env} {h : Heap} {x : Str} {v v' : Value} (a : Var env h x v) (b : Var env h x v') : v = v' := by
  rcases a with ⟨k, m, n, e⟩ | ⟨k, c, n, e⟩ <;> rcases b with ⟨k', m', n', e'⟩ | ⟨k', c', n', e'⟩
  · have := n.agree n' x; rw [e, e'] at this; injection this
  · rw [k] at k'; rcases k' with q | q <;> cases q
  · rw [k'] at k; rcases k with q | q <;> cases q
  · rw [n] at n'; cases n'; have := IsCell.inj e e'; injection this
noncomputable def OwnAt (S : Addr → Prop) (h : Heap) (a : Addr) : D → Prop
  | .list ds => ∃ vs n, h.get? a = some { cls := .type "list", data := .seq vs n } ∧ RVs S h vs.toList ds
  | _ => False
theorem OwnAt.ext {S S' : Addr → Prop} {h h' : Heap} {a : Addr} {d : D} (x : Ext S h S' h') (k : ∀ o, h.get? a = some o → h'.get? a = some o) (q : OwnAt S h a d) : OwnAt S' h' a d := by
  unfold OwnAt at q ⊢
  split at q
  · obtain ⟨vs, n, e, r⟩ := q; exact ⟨vs, n, k _ e, r.ext x⟩
  · exact q
theorem OwnAt.cls {S : Addr → Prop} {h : Heap} {a : Addr} {d : D} (q : OwnAt S h a d) : ∃ o, h.get? a = some o ∧ o.cls = .type "list" ∧ (∃ vs n, o.data = .seq vs n) := by
  unfold OwnAt at q
  split at q
  · obtain ⟨vs, n, e, _⟩ := q; exact ⟨_, e, rfl, vs, n, rfl⟩
  · exact q.elim
noncomputable def rowD (k : List Int) : D := .tup (k.map .int)
noncomputable def rowHash (k : List Int) : Int := reduceHash (Builtin.Tuple.tupleHashOf (k.map hashInt))
noncomputable def dEnt (x : List Int × Addr × Value) : DictEntry := ⟨rowHash x.1, .ref x.2.1, x.2.2⟩
noncomputable def DictAt (S : Addr → Prop) (h : Heap) (a : Addr) (ks : List (List Int)) (ds : List D) : Prop :=
  ∃ (o : Obj) (es : Array DictEntry) (n : Nat) (xs : List (List Int × Addr × Value)), h.get? a = some o ∧ (o.cls = .type "dict" ∧ o.dict = none) ∧ o.data = .dict es n ∧ es.toList = xs.map dEnt ∧
    xs.map (·.1) = ks ∧ ks.Nodup ∧ (∀ x ∈ xs, RV S h (.ref x.2.1) (rowD x.1)) ∧ RVs S h (xs.map (·.2.2)) ds ∧ (a == sysModules) = false
theorem DictAt.map {S S' : Addr → Prop} {h h' : Heap} {a : Addr} {ks : List (List Int)} {ds : List D} (x : Carry S h S' h') (k : ∀ o, h.get? a = some o → ∃ sl, h'.get? a = some { o with slots := sl }) (q : DictAt S h a ks ds) : DictAt S' h' a ks ds := by
  obtain ⟨o, es, n, xs, e, hc, hd, he, hk, nd, hr, rv, hm⟩ := q
  obtain ⟨sl, e'⟩ := k o e
  exact ⟨_, es, n, xs, e', hc, hd, he, hk, nd, fun y hy => (hr y hy).map x, rv.map x, hm⟩
noncomputable def OwnV (S : Addr → Prop) (h : Heap) (a : Addr) : D → Prop
  | .dict ks ds => DictAt S h a ks ds
  | d => OwnAt S h a d
theorem OwnAt.map {S S' : Addr → Prop} {h h' : Heap} {a : Addr} {d : D} (x : Carry S h S' h') (k : ∀ o, h.get? a = some o → NotDict o → h'.get? a = some o) (q : OwnAt S h a d) : OwnAt S' h' a d := by
  unfold OwnAt at q ⊢
  split at q
  · obtain ⟨vs, n, e, r⟩ := q; exact ⟨vs, n, k _ e (.seq rfl), r.map x⟩
  · exact q
theorem OwnAt.v {S : Addr → Prop} {h : Heap} {a : Addr} {d : D} (q : OwnAt S h a d) : OwnV S h a d := by
  cases d <;> first | exact q | exact q.elim
theorem OwnV.cases {S : Addr → Prop} {h : Heap} {a : Addr} {d : D} (q : OwnV S h a d) : OwnAt S h a d ∨ ∃ ks ds, d = .dict ks ds ∧ DictAt S h a ks ds := by
  cases d <;> first | exact .inl q | exact .inr ⟨_, _, rfl, q⟩
theorem OwnV.map {S S' : Addr → Prop} {h h' : Heap} {a : Addr} {d : D} (x : Carry S h S' h') (k : ∀ o, h.get? a = some o → (∃ vs n, o.data = .seq vs n) ∨ (∃ es n, o.data = .dict es n) → ∃ sl, h'.get? a = some { o with slots := sl } ∧ (NotDict o → sl = o.slots)) (q : OwnV S h a d) : OwnV S' h' a d := by
  rcases q.cases with q | ⟨ks, ds, rfl, q⟩
  · refine (q.map x fun o e hn => ?_).v
    obtain ⟨o', e', _, vs, n, hd⟩ := q.cls
    rw [e] at e'; cases e'
    obtain ⟨sl, e₁, hs⟩ := k o e (.inl ⟨vs, n, hd⟩)
    rw [hs hn] at e₁; exact e₁
  · refine DictAt.map x (fun o e => ?_) q
    obtain ⟨o', es, n, xs, e', hc, hd, _⟩ := q
    rw [e] at e'; cases e'
    obtain ⟨sl, e₁, _⟩ := k o e (.inr ⟨es, n, hd⟩)
    exact ⟨sl, e₁⟩
theorem OwnV.ext {S S' : Addr → Prop} {h h' : Heap} {a : Addr} {d : D} (x : Ext S h S' h') (k : ∀ o, h.get? a = some o → ∃ sl, h'.get? a = some { o with slots := sl } ∧ (NotDict o → sl = o.slots)) (q : OwnV S h a d) : OwnV S' h' a d := q.map x.carry fun o e _ => k o e
theorem OwnV.live {S : Addr → Prop} {h : Heap} {a : Addr} {d : D} (q : OwnV S h a d) : ∃ o, h.get? a = some o ∧ ((∃ vs n, o.data = .seq vs n) ∨ ∃ es n, o.data = .dict es n) := by
  rcases q.cases with q | ⟨ks, ds, rfl, q⟩
  · obtain ⟨o, e, _, vs, n, hd⟩ := q.cls; exact ⟨o, e, .inl ⟨vs, n, hd⟩⟩
  · obtain ⟨o, es, n, _, e, _, hd, _⟩ := q; exact ⟨o, e, .inr ⟨es, n, hd⟩⟩
noncomputable def TVar (h₀ : Heap) (S : Addr → Prop) (h : Heap) (v : Value) : T → Prop
  | .sh d => RV S h v d
  | .ow m d => ∃ a, v = .ref a ∧ ¬ S a ∧ OwnV S h a d ∧ (m = true → h₀.get? a = none)
noncomputable def FF (B h : Heap) (fs : List Env) : Prop := ∀ env ∈ fs, env.scope.kind ≠ .module ∧ ∃ L o, env.frame = some L ∧ B.get? L = none ∧ h.get? L = some o ∧ ∃ es n, o.data = .dict es n
theorem FF.kp {B h h' : Heap} {fs : List Env} (k : Kp h h') (x : FF B h fs) : FF B h' fs := fun env he => by
  obtain ⟨a, L, o, b, c, d, e⟩ := x env he
  obtain ⟨sl, e₁, _⟩ := k L o d
  exact ⟨a, L, _, b, c, e₁, e⟩
theorem FF.fun {B h : Heap} : ∀ {fs : List Env}, FF B h fs → h.FunFrames B fs
  | [], _ => trivial
  | env :: fs, x => by
    obtain ⟨a, L, o, b, c, d, es, n, f⟩ := x env (.head _)
    exact ⟨a, ⟨L, o, b, c, d, fun vs q => by rw [f] at q; cases q⟩, FF.fun fun e he => x e (.tail _ he)⟩
structure Gd where
  prog : Program
  w : World
  B : Heap
  mg : Str → Option Value
  mb : Str → Option Value
  K : W.Frag
  quiet : Bool := true
structure Gd.Ok (G : Gd) : Prop where
  g : G.B.Ns mainGlobals G.mg
  b : G.B.Ns builtinsNs G.mb
  nolimit : G.B.NoLimit
  K : G.K.In G.B
abbrev Gd.M (G : Gd) : Model := model G.prog G.w
structure Cx where
  A : Around
  env : Env
  fs : List Env
  h₀ : Heap
  P : Addr → Prop
noncomputable def varNames (sc : Scope) : List Str := (sc.names.filter fun x => x.2 == .local || x.2 == .cell || x.2 == .free).map (·.1)
abbrev AEnv := List (Option T)
noncomputable def isDirty (x : Str) : Bool := x == "_law_e"
noncomputable def DOK (cx : Cx) (sc : Scope) (ρ : AEnv) (h : Heap) : Prop := ∀ (i : Nat) (x : Str) (m : Bool) (ks : List (List Int)) (ds : List D), (varNames sc)[i]? = some x → ρ[i]? = some (some (.ow m (.dict ks ds))) → ¬ Var cx.env h x (.ref cx.env.locals)
theorem DOK.back {cx : Cx} {sc : Scope} {ρ : AEnv} {h h' : Heap} (q : DOK cx sc ρ h) (k : ∀ x v, Var cx.env h' x v → Var cx.env h x v) : DOK cx sc ρ h' := fun i x m ks ds hx hi hv => q i x m ks ds hx hi (k _ _ hv)
theorem DOK.sub {cx : Cx} {sc : Scope} {ρ ρ' : AEnv} {h : Heap} (q : DOK cx sc ρ h) (k : ∀ (i : Nat) m ks ds, ρ'[i]? = some (some (.ow m (.dict ks ds))) → ∃ m' ks' ds', ρ[i]? = some (some (.ow m' (.dict ks' ds')))) : DOK cx sc ρ' h := fun i x m ks ds hx hi => let ⟨m', ks', ds', e⟩ := k i m ks ds hi; q i x m' ks' ds' hx e
theorem set_other {ρ : AEnv} {i j : Nat} {t u : T} (e : (ρ.set i (some t))[j]? = some (some u)) (h : u ≠ t) : ρ[j]? = some (some u) := by
  by_cases hij : i = j
  · subst hij
    by_cases hl : i < ρ.length
    · rw [List.getElem?_set_self hl] at e; cases e; exact absurd rfl h
    · rw [List.getElem?_eq_none (by rw [List.length_set]; omega)] at e; cases e
  · rw [List.getElem?_set_ne hij] at e; exact e
theorem DOK.set {cx : Cx} {sc : Scope} {ρ : AEnv} {h : Heap} {i : Nat} {t : T} (q : DOK cx sc ρ h) (ht : ∀ m ks ds, t ≠ .ow m (.dict ks ds)) : DOK cx sc (ρ.set i (some t)) h := q.sub fun j m ks ds e => ⟨m, ks, ds, set_other e fun q => ht m ks ds q.symm⟩
structure Rel (G : Gd) (cx : Cx) (sc : Scope) (ρ : AEnv) (S : Addr → Prop) (h : Heap) : Prop where
  base : G.B.StaysIn h
  keep : Kp cx.h₀ h
  ff : FF G.B h cx.fs
  ns : ∃ m, h.Ns cx.env.locals m
  cells : ∀ x c, cx.env.cells.lookup x = some c → ∃ v, h.IsCell c v
  sdom : ∀ b, S b → ∃ o, h.get? b = some o
  sok : ∀ b, S b → cx.P b ∨ cx.h₀.get? b = none
  sloc : ¬ S cx.env.locals
  scell : ∀ x c, cx.env.cells.lookup x = some c → ¬ S c
  live : ∀ x a, isDirty x = false → Var cx.env h x (.ref a) → ∃ o, h.get? a = some o
  clean : ∀ (i : Nat) (x : Str) (m : Bool) (d : D), (varNames sc)[i]? = some x → ρ[i]? = some (some (.ow m d)) → isDirty x = false
  hok : ∀ v, cx.A.handled = some v → ∃ C, RV S h v (.exc C)
  vars : ∀ (i : Nat) (x : Str) (t : T), (varNames sc)[i]? = some x → ρ[i]? = some (some t) → ∃ v, Var cx.env h x v ∧ TVar cx.h₀ S h v t
  inj : ∀ (i j : Nat) (x y : Str) (m m' : Bool) (d d' : D) (v : Value), (varNames sc)[i]? = some x → (varNames sc)[j]? = some y → ρ[i]? = some (some (.ow m d)) → ρ[j]? = some (some (.ow m' d')) → Var cx.env h x v → Var cx.env h y v → i = j
  dok : DOK cx sc ρ h
noncomputable def VarSame (env : Env) (h h' : Heap) : Prop := ∀ x v, Var env h x v → Var env h' x v
theorem VarSame.refl (env : Env) (h : Heap) : VarSame env h h := fun _ _ q => q
theorem VarSame.trans {env : Env} {h₁ h₂ h₃ : Heap} (a : VarSame env h₁ h₂) (b : VarSame env h₂ h₃) : VarSame env h₁ h₃ := fun x v q => b x v (a x v q)
section
variable {G : Gd} {cx : Cx} {sc : Scope} {ρ : AEnv} {S S' : Addr → Prop} {h h' : Heap}
theorem Rel.ext_kp (_ : Rel G cx sc ρ S h) (k : Kp h h') : Ext S h S h' := Ext.of_kp k
theorem TVar.ext {h₀ : Heap} {v : Value} {t : T} (x : Ext S h S h') (k : Kp h h') (q : TVar h₀ S h v t) : TVar h₀ S h' v t := by
  cases t with
  | sh d => exact RV.ext x q
  | ow m d =>
    obtain ⟨a, e, ns, ow, n⟩ := q
    exact ⟨a, e, ns, ow.ext x fun o e' => k a o e', n⟩
theorem Var.of_kp {env : Env} (k : Kp h h') (ns : ∃ m, h.Ns env.locals m) (cl : ∀ x c, env.cells.lookup x = some c → ∃ v, h.IsCell c v) {x : Str} {v : Value} (q : Var env h' x v) : Var env h x v := by
  rcases q with ⟨a, m, b, c⟩ | ⟨a, c, b, d⟩
  · obtain ⟨m₀, n₀⟩ := ns
    exact .inl ⟨a, m₀, n₀, by rw [(k.ns n₀).agree b x]; exact c⟩
  · obtain ⟨v₀, i₀⟩ := cl x c b
    exact .inr ⟨a, c, b, by rw [IsCell.inj d (k.cell i₀)]; exact i₀⟩
theorem Rel.kp (r : Rel G cx sc ρ S h) (k : Kp h h') (hb : G.B.StaysIn h') : Rel G cx sc ρ S h' where
  base := hb
  keep := r.keep.trans k
  ff := r.ff.kp k
  ns := let ⟨m, n⟩ := r.ns; ⟨m, k.ns n⟩
  cells := fun x c e => let ⟨v, n⟩ := r.cells x c e; ⟨v, k.cell n⟩
  sdom := fun b q => let ⟨_, e⟩ := r.sdom b q; k.dom e
  sok := r.sok
  sloc := r.sloc
  scell := r.scell
  live := fun x a hd q => let ⟨_, e⟩ := r.live x a hd (Var.of_kp k r.ns r.cells q); k.dom e
  clean := r.clean
  hok := fun v q => let ⟨C, e⟩ := r.hok v q; ⟨C, e.ext (r.ext_kp k)⟩
  vars := fun i x t hx ht => by
    obtain ⟨v, hv, tv⟩ := r.vars i x t hx ht
    exact ⟨v, hv.kp k, tv.ext (r.ext_kp k) k⟩
  inj := fun i j x y m m' d d' v hx hy hi hj a b => r.inj i j x y m m' d d' v hx hy hi hj (Var.of_kp k r.ns r.cells a) (Var.of_kp k r.ns r.cells b)
  dok := r.dok.back fun _ _ q => Var.of_kp k r.ns r.cells q
theorem Rel.same (r : Rel G cx sc ρ S h) (k : Kp h h') : VarSame cx.env h h' := fun _ _ q => q.kp k
theorem Rel.keeps (r : Rel G cx sc ρ S h) (k : ∀ b o, h.get? b = some o → h'.get? b = some o) : Rel G cx sc ρ S h' := r.kp (.of_keeps k) fun b o e => k b o (r.base b o e)
theorem Rel.notCell (r : Rel G cx sc ρ S h) {a : Addr} {o : Obj} (e : h.get? a = some o) (hd : ∀ v, o.data ≠ .cell v) : ∀ x c, cx.env.cells.lookup x = some c → c ≠ a := by
  rintro x c q rfl
  obtain ⟨v, o', e', hd'⟩ := r.cells x c q
  rw [e] at e'; cases e'; exact hd v hd'
theorem Rel.grow (r : Rel G cx sc ρ S h) {a : Addr} {o : Obj} (e : h.get? a = some o) (hn : cx.h₀.get? a = none) (hl : a ≠ cx.env.locals) (hcl : ∀ x c, cx.env.cells.lookup x = some c → c ≠ a) (hv : ∀ x, isDirty x = false → ¬ Var cx.env h x (.ref a)) : Rel G cx sc ρ (fun b => S b ∨ b = a) h where
  base := r.base
  keep := r.keep
  ff := r.ff
  ns := r.ns
  cells := r.cells
  sdom := fun b q => q.elim (r.sdom b) fun q => ⟨o, by rw [q]; exact e⟩
  sok := fun b q => q.elim (r.sok b) fun q => .inr (by rw [q]; exact hn)
  sloc := fun q => q.elim r.sloc fun q => hl q.symm
  scell := fun x c e q => q.elim (r.scell x c e) (hcl x c e)
  live := r.live
  clean := r.clean
  hok := fun v q => let ⟨C, e⟩ := r.hok v q; ⟨C, e.ext (Ext.grow fun _ q => .inl q)⟩
  vars := fun i x t hx ht => by
    obtain ⟨v, hv', tv⟩ := r.vars i x t hx ht
    refine ⟨v, hv', ?_⟩
    cases t with
    | sh d => exact RV.ext (Ext.grow fun _ q => .inl q) tv
    | ow m d =>
      obtain ⟨b, rfl, ns, ow, n⟩ := tv
      exact ⟨b, rfl, fun q => q.elim ns fun q => hv x (r.clean i x m d hx ht) (q ▸ hv'), ow.ext (Ext.grow fun _ q => .inl q) (fun o e => ⟨o.slots, e, fun _ => rfl⟩), n⟩
  inj := r.inj
  dok := r.dok
end
inductive Res (α : Type) where
  | ok (a : α) (ρ : AEnv)
  | exc (C : Addr) (ρ : AEnv)
  | stuck
noncomputable def Res.bind {α β : Type} (r : Res α) (g : α → AEnv → Res β) : Res β := match r with
  | .ok a ρ => g a ρ
  | .exc C ρ => .exc C ρ
  | .stuck => .stuck
noncomputable def Fly (h h' : Heap) (e C : Addr) : Prop := h.get? e = none ∧ ∃ oe vs, h'.get? e = some oe ∧ oe.cls = .ref C ∧ oe.dict = none ∧ oe.data = .fields vs ∧ vs[2]? = some .none ∧
  (vs[1]? = some .none ∨ ∃ T oT ts, vs[1]? = some (.ref T) ∧ T ≠ e ∧ h.get? T = none ∧ h'.get? T = some oT ∧ oT.cls = .type "traceback" ∧ oT.data = .fields ts ∧ 3 < ts.size)
theorem Fly.back {S S' : Addr → Prop} {h₀ h h' : Heap} {e C : Addr} (x : Ext S h₀ S' h) (q : Fly h h' e C) : Fly h₀ h' e C := by
  obtain ⟨n, oe, vs, a, b, b', c, d, k⟩ := q
  refine ⟨x.none n, oe, vs, a, b, b', c, d, k.imp id ?_⟩
  rintro ⟨T, oT, ts, k1, k2, k3, k4⟩
  exact ⟨T, oT, ts, k1, k2, x.none k3, k4⟩
noncomputable def Out (G : Gd) (cx : Cx) (sc : Scope) (same : Bool) {α β : Type} (S : Addr → Prop) (s : Shared) (J : (Addr → Prop) → Heap → α → β → Prop) (Q : α → Shared → Prop) (E : Value → Shared → Prop) : Res β → Prop
  | .ok b ρ => ∀ a h' tk S', Rel G cx sc ρ S' h' → J S' h' a b → Ext S s.heap S' h' → (same = true → VarSame cx.env s.heap h') → Q a { s with heap := h', toks := tk }
  | .exc C ρ => ∀ e h' tk S', Rel G cx sc ρ S' h' → Fly s.heap h' e C → Ext S s.heap S' h' → E (.ref e) { s with heap := h', toks := tk }
  | .stuck => False
noncomputable def Does (G : Gd) (cx : Cx) (sc : Scope) (same : Bool) {α β : Type} (m : Sem α) (S : Addr → Prop) (s : Shared) (J : (Addr → Prop) → Heap → α → β → Prop) (r : Res β) : Prop :=
  ∀ Q E, Out G cx sc same S s J Q E r → wpAny G.M cx.A m Q E s
section
variable {G : Gd} {cx : Cx} {sc : Scope} {same : Bool} {α β γ δ : Type} {S : Addr → Prop} {s : Shared}
theorem Does.bind {m : Sem α} {k : α → Sem γ} {J : (Addr → Prop) → Heap → α → β → Prop} {J' : (Addr → Prop) → Heap → γ → δ → Prop} {r : Res β} {g : β → AEnv → Res δ}
    (h1 : Does G cx sc same m S s J r)
    (h2 : ∀ b ρ' a h' tk S', r = .ok b ρ' → Rel G cx sc ρ' S' h' → J S' h' a b → Ext S s.heap S' h' → (same = true → VarSame cx.env s.heap h') → Does G cx sc same (k a) S' { s with heap := h', toks := tk } J' (g b ρ')) :
    Does G cx sc same (m >>= k) S s J' (r.bind g) := by
  intro Q E out
  refine wpAny_bind (h1 _ _ ?_)
  cases r with
  | stuck => exact out
  | exc C ρ => intro e h' tk S' rel fly x; exact out e h' tk S' rel fly x
  | ok b ρ =>
    intro a h' tk S' rel j x v
    refine h2 b ρ a h' tk S' rfl rel j x v _ _ ?_
    show Out G cx sc same S' _ J' Q E (g b ρ)
    cases hg : g b ρ with
    | stuck => rw [Res.bind, hg] at out; exact out
    | exc C ρ' =>
      rw [Res.bind, hg] at out
      intro e h₂ tk₂ S₂ rel₂ fly₂ x₂
      exact out e h₂ tk₂ S₂ rel₂ (fly₂.back x) (x.trans x₂)
    | ok c ρ' =>
      rw [Res.bind, hg] at out
      intro a₂ h₂ tk₂ S₂ rel₂ j₂ x₂ v₂
      exact out a₂ h₂ tk₂ S₂ rel₂ j₂ (x.trans x₂) fun q => (v q).trans (v₂ q)
theorem Does.pure {a : α} {b : β} {ρ : AEnv} {J : (Addr → Prop) → Heap → α → β → Prop} (rel : Rel G cx sc ρ S s.heap) (j : J S s.heap a b) : Does G cx sc same (pure a) S s J (.ok b ρ) :=
  fun _ _ out => wpAny_pure (out a s.heap s.toks S rel j (Ext.refl ..) fun _ => VarSame.refl _ _)
theorem Does.loose {m : Sem α} {J : (Addr → Prop) → Heap → α → β → Prop} {r : Res β} (h : Does G cx sc true m S s J r) : Does G cx sc same m S s J r := by
  intro Q E out
  refine h Q E ?_
  cases r with
  | stuck => exact out
  | exc C ρ => exact out
  | ok b ρ => intro a h' tk S' rel j x v; exact out a h' tk S' rel j x fun _ => v rfl
theorem Does.standAt {k : Sem α} {pos : Pos} {J : (Addr → Prop) → Heap → α → β → Prop} {r : Res β} (h : Does G cx sc same k S s J r) : Does G cx sc same (do standAt pos; k) S s J r :=
  fun Q E out => wpAny_bind (wpAny_standAt (h Q E out))
theorem Does.holding {k : Sem α} {vs : List Value} {J : (Addr → Prop) → Heap → α → β → Prop} {r : Res β} (h : Does G cx sc same k S s J r) : Does G cx sc same (holding vs k) S s J r :=
  fun Q E out => wpAny_holding (h Q E out)
end
noncomputable def Fresh (cx : Cx) (S : Addr → Prop) (h : Heap) (v : Value) (d : D) : Prop := ∃ a, v = .ref a ∧ ¬ S a ∧ OwnAt S h a d ∧ cx.h₀.get? a = none ∧ ∀ x, isDirty x = false → ¬ Var cx.env h x (.ref a)
noncomputable def TTmp (cx : Cx) (S : Addr → Prop) (h : Heap) (v : Value) : T → Prop
  | .sh d => RV S h v d
  | .ow _ d => Fresh cx S h v d
noncomputable def TSt (cx : Cx) (S : Addr → Prop) (h : Heap) (v : Value) : T → Prop
  | .sh d => RV S h v d
  | .ow _ d => ∃ a, v = .ref a ∧ ¬ S a ∧ OwnV S h a d ∧ cx.h₀.get? a = none ∧ (∀ x, isDirty x = false → ¬ Var cx.env h x (.ref a)) ∧ ((∃ ks ds, d = .dict ks ds) → a ≠ cx.env.locals)
theorem TTmp.st {cx : Cx} {S : Addr → Prop} {h : Heap} {v : Value} {t : T} (q : TTmp cx S h v t) : TSt cx S h v t := by
  cases t with
  | sh d => exact q
  | ow m d =>
    obtain ⟨a, e, n, o, k, nv⟩ := q
    refine ⟨a, e, n, o.v, k, nv, ?_⟩
    rintro ⟨ks, ds, rfl⟩
    exact o.elim
theorem Rel.drop {G : Gd} {cx : Cx} {sc : Scope} {ρ : AEnv} {S : Addr → Prop} {h : Heap} {v : Value} {t : T} (r : Rel G cx sc ρ S h) (q : TTmp cx S h v t) :
    ∃ S', Rel G cx sc ρ S' h ∧ RV S' h v t.val ∧ Ext S h S' h := by
  cases t with
  | sh d => exact ⟨S, r, q, .refl ..⟩
  | ow m d =>
    obtain ⟨a, rfl, ns, ow, n, nv⟩ := q
    obtain ⟨o, ho, hc, vs, k, hd⟩ := ow.cls
    have hl : a ≠ cx.env.locals := by
      rintro rfl
      obtain ⟨m', o', es, ep, e', hd', _⟩ := r.ns
      rw [ho] at e'; cases e'; rw [hd] at hd'; cases hd'
    refine ⟨_, r.grow ho n hl (r.notCell ho (by rw [hd]; intro v q; cases q)) nv, ?_, Ext.grow fun _ q => .inl q⟩
    unfold OwnAt at ow
    split at ow
    · obtain ⟨vs', n', e', rv⟩ := ow
      exact .list (.inr rfl) e' ⟨rfl, .inl rfl⟩ rfl (rv.ext (Ext.grow fun _ q => .inl q))
    · exact ow.elim
noncomputable def Room (A : Around) (k : Nat) : Prop := A.depth + k ≤ 900 ∧ A.units + 8 * k ≤ 9000
theorem Room.mono {A : Around} {k k' : Nat} (h : Room A k) (hk : k' ≤ k) : Room A k' := ⟨by have := h.1; omega, by have := h.2; omega⟩
structure CxOk (G : Gd) (cx : Cx) (sc : Scope) (k : Nat) : Prop where
  hsc : cx.env.scope = sc
  hk : sc.kind = .function
  hg : cx.env.globals = mainGlobals
  hb : cx.env.builtins = builtinsNs
  fr : cx.A.frames = some cx.fs
  top : ∃ env outer, cx.fs = env :: outer ∧ cx.env.frame = env.frame
  hd : G.quiet = true → cx.A.handled = none
  room : Room cx.A k
  nodup : (varNames sc).Nodup
theorem CxOk.mono {G : Gd} {cx : Cx} {sc : Scope} {k k' : Nat} (h : CxOk G cx sc k) (hk : k' ≤ k) : CxOk G cx sc k' := { h with room := h.room.mono hk }
noncomputable def Sim (G : Gd) (k : Nat) (sc : Scope) (e : Expr) (f : AEnv → Res T) : Prop :=
  ∀ cx, CxOk G cx sc k → ∀ ρ S s, Rel G cx sc ρ S s.heap → Does G cx sc true (eval e cx.env) S s (fun S' h' v t => TTmp cx S' h' v t) (f ρ)
end Mine
end

section
set_option Elab.async false
set_option maxRecDepth 100000
namespace Mine
open PySem
inductive RB (S : Addr → Prop) (h : Heap) : Value → D → Prop
  | of {v : Value} {d : D} : RV S h v d → RB S h v d
  | own {a : Addr} {d : D} : OwnAt S h a d → RB S h (.ref a) d
theorem RB.list {S : Addr → Prop} {h : Heap} {v : Value} {ds : List D} (q : RB S h v (.list ds)) : ∃ a o vs n, v = .ref a ∧ h.get? a = some o ∧ o.cls = .type "list" ∧ o.data = .seq vs n ∧ RVs S h vs.toList ds := by
  cases q with
  | of q => cases q with | list _ e hc hd r => exact ⟨_, _, _, _, rfl, e, hc.1, hd, r⟩
  | own q => obtain ⟨vs, n, e, r⟩ := q; exact ⟨_, _, _, _, rfl, e, rfl, rfl, r⟩
theorem RB.bare {S : Addr → Prop} {h : Heap} {a : Addr} {ds : List D} {o : Obj} (q : RB S h (.ref a) (.list ds)) (e : h.get? a = some o) (hn : ds.all isIntD = false) : o.dict = none := by
  cases q with
  | of q =>
    cases q with
    | list _ e' hc hd r =>
      rw [e] at e'; cases e'
      rcases hc.2 with q | q
      · exact q
      · rw [hn] at q; cases q
  | own q => obtain ⟨vs, n, e', r⟩ := q; rw [e] at e'; cases e'; rfl
theorem RB.rv {S : Addr → Prop} {h : Heap} {v : Value} {d : D} (q : RB S h v d) (hd : ∀ ds, d ≠ .list ds) : RV S h v d := by
  cases q with
  | of q => exact q
  | own q =>
    unfold OwnAt at q
    split at q
    · exact absurd rfl (hd _)
    · exact q.elim
theorem RB.any {S : Addr → Prop} {h : Heap} {v : Value} {d : D} (q : RB S h v d) : RV (fun _ => True) h v d := by
  cases q with
  | of q => exact q.ext (Ext.grow fun _ _ => trivial)
  | own q =>
    unfold OwnAt at q
    split at q
    · obtain ⟨vs, n, e, r⟩ := q; exact .list trivial e ⟨rfl, .inl rfl⟩ rfl (r.ext (Ext.grow fun _ _ => trivial))
    · exact q.elim
inductive Bv where
  | val (d : D)
  | var (i : Nat)
noncomputable def Bv.get (ρ : AEnv) : Bv → Option D
  | .val d => some d
  | .var i => match ρ[i]? with
    | some (some t) => t.get
    | _ => none
noncomputable def BVal (cx : Cx) (sc : Scope) (S : Addr → Prop) (h : Heap) (v : Value) : Bv → Prop
  | .val d => RV S h v d
  | .var i => ∃ x, (varNames sc)[i]? = some x ∧ Var cx.env h x v
section
variable {G : Gd} {cx : Cx} {sc : Scope} {ρ : AEnv} {S S' : Addr → Prop} {h h' : Heap} {v : Value} {b : Bv} {d : D}
theorem BVal.ext (q : BVal cx sc S h v b) (x : Ext S h S' h') (k : VarSame cx.env h h') : BVal cx sc S' h' v b := by
  cases b with
  | val d => exact RV.ext x q
  | var i => obtain ⟨y, hy, hv⟩ := q; exact ⟨y, hy, k y v hv⟩
theorem BVal.rb (q : BVal cx sc S h v b) (r : Rel G cx sc ρ S h) (e : b.get ρ = some d) : RB S h v d := by
  cases b with
  | val d' => cases e; exact .of q
  | var i =>
    obtain ⟨y, hy, hv⟩ := q
    simp only [Bv.get] at e
    split at e
    · rename_i t ht
      obtain ⟨w, hw, tv⟩ := r.vars i y t hy ht
      rw [Var.inj hv hw]
      cases t with
      | sh d => cases e; exact .of tv
      | ow m d =>
        obtain ⟨a, rfl, _, ow, _⟩ := tv
        cases d with
        | list ds => cases e; exact .own ow
        | _ => cases e
    · cases e
theorem sim_load {x : Str} (ok : CxOk G cx sc 0) (hv : Var cx.env h x v) (hn : (x == ("__classdict__" : Str)) = false) {M : Model} {A : Around} {s : Shared} (hs : s.heap = h) {Q : Value → Shared → Prop} {E : Value → Shared → Prop} (hQ : Q v s) :
    wpAny M A (loadName cx.env x) Q E s := by
  subst hs
  have hk : cx.env.scope.kind = .function := by rw [ok.hsc]; exact ok.hk
  rcases hv with ⟨a, m, b, c⟩ | ⟨a, c, b, d⟩
  · exact wpAny_loadName_local hk a b c hQ
  · rcases a with a | a
    · exact wpAny_loadName_cell hk a b d hQ
    · exact wpAny_loadName_free hk a b d hQ hn
end
noncomputable def SimB (G : Gd) (k : Nat) (sc : Scope) (e : Expr) (f : AEnv → Res Bv) : Prop :=
  ∀ cx, CxOk G cx sc k → ∀ ρ S s, Rel G cx sc ρ S s.heap → Does G cx sc true (eval e cx.env) S s (fun S' h' v b => BVal cx sc S' h' v b) (f ρ)
noncomputable def eVal (f : AEnv → Res T) : AEnv → Res Bv := fun ρ => (f ρ).bind fun t ρ' => .ok (.val t.val) ρ'
theorem SimB.of {G : Gd} {k : Nat} {sc : Scope} {e : Expr} {f : AEnv → Res T} (h : Sim G k sc e f) : SimB G k sc e (eVal f) := by
  intro cx ok ρ S s r Q E out
  refine h cx ok ρ S s r Q E ?_
  unfold eVal at out
  cases hf : f ρ with
  | stuck => rw [hf] at out; exact out
  | exc C ρ' => rw [hf] at out; exact out
  | ok t ρ' =>
    rw [hf] at out
    intro v h' tk S' rel j x vs
    obtain ⟨S₂, rel₂, rv, x₂⟩ := rel.drop j
    exact out v h' tk S₂ rel₂ rv (x.trans x₂) vs
noncomputable def eOp (i : Nat) : AEnv → Res Bv := fun ρ => match ρ[i]? with
  | some (some _) => .ok (.var i) ρ
  | _ => .stuck
theorem simB_name {G : Gd} {k : Nat} {sc : Scope} {x : Str} {pos : Pos} {i : Nat} (hx : (varNames sc)[i]? = some x) (hd : (x == ("__debug__" : Str)) = false) (hn : (x == ("__classdict__" : Str)) = false) :
    SimB G k sc (.Name x pos) (eOp i) := by
  intro cx ok ρ S s r Q E out
  unfold eOp at out
  split at out
  · rename_i t ht
    obtain ⟨v, hv, tv⟩ := r.vars i x t hx ht
    exact wpAny_Name (sim_load (ok.mono (Nat.zero_le _)) hv hn rfl (out v s.heap s.toks S r ⟨x, hx, hv⟩ (Ext.refl ..) fun _ => VarSame.refl _ _)) hd
  · exact out.elim
theorem Rel.dropVar {G : Gd} {cx : Cx} {sc : Scope} {ρ : AEnv} {S : Addr → Prop} {h : Heap} {i : Nat} {x : Str} {ds : List D} {v : Value} (r : Rel G cx sc ρ S h) (hx : (varNames sc)[i]? = some x) (ht : ρ[i]? = some (some (.ow true (.list ds)))) (hv : Var cx.env h x v) :
    ∃ S', Rel G cx sc (ρ.set i (some (.sh (.list ds)))) S' h ∧ RV S' h v (.list ds) ∧ Ext S h S' h := by
  obtain ⟨w, hw, a, rfl, ns, ow, n⟩ := r.vars i x _ hx ht
  rw [Var.inj hv hw]
  have ow : OwnAt S h a (.list ds) := ow
  generalize hdd : D.list ds = d at *
  obtain ⟨o, ho, hc, vs, nn, hd⟩ := ow.cls
  have hl : a ≠ cx.env.locals := by
    rintro rfl
    obtain ⟨m', o', es, ep, e', hd', _⟩ := r.ns
    rw [ho] at e'; cases e'; rw [hd] at hd'; cases hd'
  have rv : RV (fun b => S b ∨ b = a) h (.ref a) d := by
    unfold OwnAt at ow
    split at ow
    · obtain ⟨vs', n', e', rv⟩ := ow
      exact .list (.inr rfl) e' ⟨rfl, .inl rfl⟩ rfl (rv.ext (Ext.grow fun _ q => .inl q))
    · exact ow.elim
  refine ⟨fun b => S b ∨ b = a, ⟨r.base, r.keep, r.ff, r.ns, r.cells, fun b q => q.elim (r.sdom b) fun q => ⟨o, by rw [q]; exact ho⟩, fun b q => q.elim (r.sok b) fun q => .inr (by rw [q]; exact n rfl),
    fun q => q.elim r.sloc fun q => hl q.symm, fun x c e q => q.elim (r.scell x c e) (r.notCell ho (by rw [hd]; intro v q; cases q) x c e), r.live, fun j y m e hy hj => ?_, fun v q => let ⟨C, e⟩ := r.hok v q; ⟨C, e.ext (Ext.grow fun _ q => .inl q)⟩, fun j y t hy htj => ?_, fun j k y z m m' e e' u hy hz hj hk a b => ?_, r.dok.set fun _ _ _ q => by cases q⟩, rv, Ext.grow fun _ q => .inl q⟩
  · have hji : i ≠ j := by rintro rfl; rw [List.getElem?_set_self (by rw [List.getElem?_eq_some_iff] at ht; exact ht.1)] at hj; cases hj
    rw [List.getElem?_set_ne hji] at hj
    exact r.clean j y m e hy hj
  · by_cases hij : i = j
    · subst hij
      have : (ρ.set i (some (T.sh d)))[i]? = some (some (T.sh d)) := by
        rw [List.getElem?_set_self]; rw [List.getElem?_eq_some_iff] at ht; exact ht.1
      rw [this] at htj; cases htj
      rw [hx] at hy; cases hy
      exact ⟨_, hw, rv⟩
    · rw [List.getElem?_set_ne hij] at htj
      obtain ⟨u, hu, tv⟩ := r.vars j y t hy htj
      refine ⟨u, hu, ?_⟩
      cases t with
      | sh e => exact RV.ext (Ext.grow fun _ q => .inl q) tv
      | ow m e =>
        obtain ⟨b, rfl, nb, owb, n'⟩ := tv
        refine ⟨b, rfl, fun q => q.elim nb fun q => ?_, owb.ext (Ext.grow fun _ q => .inl q) (fun o e => ⟨o.slots, e, fun _ => rfl⟩), n'⟩
        subst q
        exact hij (r.inj i j x y true m d e (.ref b) hx hy ht htj hw hu)
  · have hji : i ≠ j := by rintro rfl; rw [List.getElem?_set_self (by rw [List.getElem?_eq_some_iff] at ht; exact ht.1)] at hj; cases hj
    have hki : i ≠ k := by rintro rfl; rw [List.getElem?_set_self (by rw [List.getElem?_eq_some_iff] at ht; exact ht.1)] at hk; cases hk
    rw [List.getElem?_set_ne hji] at hj
    rw [List.getElem?_set_ne hki] at hk
    exact r.inj j k y z m m' e e' u hy hz hj hk a b
noncomputable def eVar (i : Nat) : AEnv → Res T := fun ρ => match ρ[i]? with
  | some (some (.sh d)) => .ok (.sh d) ρ
  | some (some (.ow true (.list ds))) => .ok (.sh (.list ds)) (ρ.set i (some (.sh (.list ds))))
  | _ => .stuck
theorem sim_name {G : Gd} {k : Nat} {sc : Scope} {x : Str} {pos : Pos} {i : Nat} (hx : (varNames sc)[i]? = some x) (hd : (x == ("__debug__" : Str)) = false) (hn : (x == ("__classdict__" : Str)) = false) :
    Sim G k sc (.Name x pos) (eVar i) := by
  intro cx ok ρ S s r Q E out
  unfold eVar at out
  split at out
  · rename_i d ht
    obtain ⟨v, hv, tv⟩ := r.vars i x _ hx ht
    exact wpAny_Name (sim_load (ok.mono (Nat.zero_le _)) hv hn rfl (out v s.heap s.toks S r tv (Ext.refl ..) fun _ => VarSame.refl _ _)) hd
  · rename_i d ht
    obtain ⟨v, hv, tv⟩ := r.vars i x _ hx ht
    obtain ⟨S', r', rv, x'⟩ := r.dropVar hx ht hv
    exact wpAny_Name (sim_load (ok.mono (Nat.zero_le _)) hv hn rfl (out v s.heap s.toks S' r' rv x' fun _ => VarSame.refl _ _)) hd
  · exact out.elim
noncomputable def eConst (d : D) : AEnv → Res T := fun ρ => .ok (.sh d) ρ
section
variable {G : Gd} {k : Nat} {sc : Scope} {pos : Pos} {kk : Nat}
theorem sim_none : Sim G k sc (.Constant .none kk pos) (eConst .none) := fun _ _ _ _ s r _ _ out => wpAny_Constant_none (out _ s.heap s.toks _ r .none (Ext.refl ..) fun _ => VarSame.refl _ _)
theorem sim_bool {b : Bool} : Sim G k sc (.Constant (.bool b) kk pos) (eConst (.bool b)) := fun _ _ _ _ s r _ _ out => wpAny_Constant_bool (out _ s.heap s.toks _ r (.bool b) (Ext.refl ..) fun _ => VarSame.refl _ _)
theorem sim_int {i : Int} : Sim G k sc (.Constant (.int i) kk pos) (eConst (.int i)) := fun _ _ _ _ s r _ _ out => wpAny_Constant_int (out _ s.heap _ _ r (.int i _) (Ext.refl ..) fun _ => VarSame.refl _ _)
theorem sim_str {x : Str} : Sim G k sc (.Constant (.str x) kk pos) (eConst (.str x)) := fun _ _ _ _ s r _ _ out => wpAny_Constant_str (out _ s.heap _ _ r (.str x _) (Ext.refl ..) fun _ => VarSame.refl _ _)
theorem sim_global {x : Str} {v : Value} (hG : G.Ok) (hx : sc.names.lookup x = some .globalImplicit) (hv : G.mg x = some v) (hl : ∀ a, v = .ref a → ∃ o, G.B.get? a = some o) (hd : (x == ("__debug__" : Str)) = false) : Sim G k sc (.Name x pos) (eConst (.glob v)) := by
  intro cx ok ρ S s r Q E out
  refine Calls.Name_function_global (by rw [ok.hsc]; exact ok.hk) (by unfold Env.kindOf; rw [ok.hsc]; exact hx) (Calls.loadGlobal_global (mg := G.mg) (by rw [ok.hg]; exact hG.g.keeps r.base) hv ?_) hd
  exact out _ s.heap s.toks _ r (.glob v fun a e => let ⟨o, e'⟩ := hl a e; ⟨o, r.base _ _ e'⟩) (Ext.refl ..) fun _ => VarSame.refl _ _
theorem sim_builtin {x : Str} {v : Value} (hG : G.Ok) (hx : sc.names.lookup x = some .globalImplicit) (hm : G.mg x = none) (hv : G.mb x = some v) (hl : ∀ a, v ≠ .ref a) (hd : (x == ("__debug__" : Str)) = false) : Sim G k sc (.Name x pos) (eConst (.glob v)) := by
  intro cx ok ρ S s r Q E out
  refine Calls.Name_function_global (by rw [ok.hsc]; exact ok.hk) (by unfold Env.kindOf; rw [ok.hsc]; exact hx) (Calls.loadGlobal_builtin (mg := G.mg) (mb := G.mb) (by rw [ok.hg]; exact hG.g.keeps r.base) hm (by rw [ok.hb]; exact hG.b.keeps r.base) hv ?_) hd
  exact out _ s.heap s.toks _ r (.glob v fun a e => (hl a e).elim) (Ext.refl ..) fun _ => VarSame.refl _ _
end
end Mine
end

section
set_option Elab.async false
set_option maxRecDepth 100000
namespace Mine
open PySem
noncomputable def Op1 (G : Gd) (m : Value → Sem Value) (F : D → Option T) : Prop :=
  ∀ cx sc, CxOk G cx sc 0 → ∀ ρ S s v x t, Rel G cx sc ρ S s.heap → RB S s.heap v x → F x = some t → Does G cx sc true (m v) S s (fun S' h' v t => TTmp cx S' h' v t) (.ok t ρ)
noncomputable def Op2 (G : Gd) (m : Value → Value → Sem Value) (F : D → D → Option T) : Prop :=
  ∀ cx sc, CxOk G cx sc 0 → ∀ ρ S s v w x y t, Rel G cx sc ρ S s.heap → RB S s.heap v x → RB S s.heap w y → F x y = some t → Does G cx sc true (m v w) S s (fun S' h' v t => TTmp cx S' h' v t) (.ok t ρ)
noncomputable def eOp1 (F : D → Option T) (f : AEnv → Res Bv) : AEnv → Res T := fun ρ => (f ρ).bind fun a ρ₁ => match a.get ρ₁ with
  | some x => (match F x with | some t => .ok t ρ₁ | none => .stuck)
  | none => .stuck
noncomputable def eOp2 (F : D → D → Option T) (f g : AEnv → Res Bv) : AEnv → Res T := fun ρ => (f ρ).bind fun a ρ₁ => (g ρ₁).bind fun b ρ₂ => match a.get ρ₂, b.get ρ₂ with
  | some x, some y => (match F x y with | some t => .ok t ρ₂ | none => .stuck)
  | _, _ => .stuck
section
variable {G : Gd} {cx : Cx} {sc : Scope} {same : Bool} {α β : Type} {S : Addr → Prop} {s : Shared}
theorem Does.stuck {m : Sem α} {J : (Addr → Prop) → Heap → α → β → Prop} : Does G cx sc same m S s J .stuck := fun _ _ out => out.elim
theorem Does.wp {m m' : Sem α} {J : (Addr → Prop) → Heap → α → β → Prop} {r : Res β} (h : Does G cx sc same m S s J r) (k : ∀ Q E, wpAny G.M cx.A m Q E s → wpAny G.M cx.A m' Q E s) : Does G cx sc same m' S s J r :=
  fun Q E out => k Q E (h Q E out)
theorem Does.operate {m : Sem Value} {vs : List Value} {J : (Addr → Prop) → Heap → Value → β → Prop} {r : Res β} (h : Does G cx sc same m S s J r) : Does G cx sc same (operate vs m) S s J r :=
  h.wp fun _ _ h => wpAny_operating h
end
theorem does_two {G : Gd} {cx : Cx} {sc : Scope} {γ δ : Type} {S : Addr → Prop} {s : Shared} {l r : Expr} {f g : AEnv → Res Bv} {k : Nat} {ρ : AEnv} {n : Value → Value → Sem γ} {J : (Addr → Prop) → Heap → γ → δ → Prop} {K : D → D → AEnv → Res δ}
    (hl : SimB G k sc l f) (hr : SimB G k sc r g) (ok : CxOk G cx sc k) (rel : Rel G cx sc ρ S s.heap)
    (h : ∀ ρ' S' h' tk v w x y, Rel G cx sc ρ' S' h' → RB S' h' v x → RB S' h' w y → Does G cx sc true (n v w) S' { s with heap := h', toks := tk } J (K x y ρ'))  :
    Does G cx sc true (do let a ← eval l cx.env; let b ← holding [a] (eval r cx.env); n a b) S s J ((f ρ).bind fun a ρ₁ => (g ρ₁).bind fun b ρ₂ => match a.get ρ₂, b.get ρ₂ with
      | some x, some y => K x y ρ₂
      | _, _ => .stuck) := by
  refine Does.bind (hl cx ok ρ S s rel) fun a ρ₁ va h₁ t₁ S₁ _ rel₁ ja x₁ v₁ => ?_
  refine Does.bind (Does.holding (hr cx ok ρ₁ S₁ { s with heap := h₁, toks := t₁ } rel₁)) fun b ρ₂ vb h₂ t₂ S₂ _ rel₂ jb x₂ v₂ => ?_
  have ja₂ : BVal cx sc S₂ h₂ va a := BVal.ext ja x₂ (v₂ rfl)
  split
  · rename_i x y hx hy
    exact h ρ₂ S₂ h₂ t₂ va vb x y rel₂ (ja₂.rb rel₂ hx) (BVal.rb jb rel₂ hy)
  · exact Does.stuck
theorem sim_BinOp {G : Gd} {k : Nat} {sc : Scope} {l r : Expr} {op : Operator} {pos : Pos} {f g : AEnv → Res Bv} {F : D → D → Option T} (hl : SimB G k sc l f) (hr : SimB G k sc r g) (hop : Op2 G (binaryOp op) F) :
    Sim G k sc (.BinOp l op r pos) (eOp2 F f g) := by
  intro cx ok ρ S s rel
  show Does G cx sc true (do let a ← eval l cx.env; let b ← holding [a] (eval r cx.env); standAt pos; operate [a, b] (binaryOp op a b)) S s _ _
  refine does_two (K := fun x y ρ₂ => match F x y with | some t => .ok t ρ₂ | none => .stuck) hl hr ok rel fun ρ' S' h' tk v w x y rel' rx ry => ?_
  refine Does.standAt (Does.operate ?_)
  split
  · rename_i t ht
    exact hop cx sc (ok.mono (Nat.zero_le _)) ρ' S' { s with heap := h', toks := tk } v w x y t rel' rx ry ht
  · exact Does.stuck
theorem sim_Compare1 {G : Gd} {k : Nat} {sc : Scope} {l r : Expr} {op : CmpOp} {pos : Pos} {f g : AEnv → Res Bv} {F : D → D → Option T} (hl : SimB G k sc l f) (hr : SimB G k sc r g) (hop : Op2 G (compareOp op) F)
    (hm : behindInMarks op r = false) : Sim G k sc (.Compare l [op] [r] pos) (eOp2 F f g) := by
  intro cx ok ρ S s rel
  rw [eval_Compare1, markedBehindIn_of_false hm]
  refine does_two (K := fun x y ρ₂ => match F x y with | some t => .ok t ρ₂ | none => .stuck) hl hr ok rel fun ρ' S' h' tk v w x y rel' rx ry => ?_
  refine Does.standAt (Does.operate ?_)
  split
  · rename_i t ht
    exact hop cx sc (ok.mono (Nat.zero_le _)) ρ' S' { s with heap := h', toks := tk } v w x y t rel' rx ry ht
  · exact Does.stuck
theorem sim_UnaryOp {G : Gd} {k : Nat} {sc : Scope} {x : Expr} {op : UnaryOp} {pos : Pos} {f : AEnv → Res Bv} {F : D → Option T} (hx : SimB G k sc x f) (hop : Op1 G (unaryOp op) F) : Sim G k sc (.UnaryOp op x pos) (eOp1 F f) := by
  intro cx ok ρ S s rel
  show Does G cx sc true (do let v ← eval x cx.env; standAt pos; holding [v] (unaryOp op v)) S s _ _
  refine Does.bind (hx cx ok ρ S s rel) fun a ρ₁ va h₁ t₁ S₁ _ rel₁ ja x₁ v₁ => ?_
  refine Does.standAt (Does.holding ?_)
  split
  · rename_i d hd
    split
    · rename_i t ht
      exact hop cx sc (ok.mono (Nat.zero_le _)) ρ₁ S₁ { s with heap := h₁, toks := t₁ } va d t rel₁ (BVal.rb ja rel₁ hd) ht
    · exact Does.stuck
  · exact Does.stuck
noncomputable def small (b : Int) : Bool := decide (b.natAbs < 2 ^ 63)
noncomputable def subI : D → D → Option T
  | .int a, .int b => some (.sh (.int (a - b)))
  | _, _ => none
noncomputable def mulI : D → D → Option T
  | .int a, .int b => if small a || small b then some (.sh (.int (a * b))) else none
  | _, _ => none
noncomputable def divI : D → D → Option T
  | .int a, .int b => if b ≠ 0 ∧ b.natAbs < 1073741824 then some (.sh (.int (a.fdiv b))) else none
  | _, _ => none
noncomputable def modI : D → D → Option T
  | .int a, .int b => if b ≠ 0 then some (.sh (.int (a.fmod b))) else none
  | _, _ => none
noncomputable def negI : D → Option T
  | .int a => some (.sh (.int (-a)))
  | _ => none
theorem RB.int {S : Addr → Prop} {h : Heap} {v : Value} {i : Int} (q : RB S h v (.int i)) : ∃ t, v = .int i t := by
  have := q.rv fun _ e => by cases e
  cases this; exact ⟨_, rfl⟩
theorem RB.bool {S : Addr → Prop} {h : Heap} {v : Value} {i : Bool} (q : RB S h v (.bool i)) : v = .bool i := by
  have := q.rv fun _ e => by cases e
  cases this; rfl
theorem RB.str {S : Addr → Prop} {h : Heap} {v : Value} {i : Str} (q : RB S h v (.str i)) : ∃ t, v = .str i t := by
  have := q.rv fun _ e => by cases e
  cases this; exact ⟨_, rfl⟩
theorem RB.none {S : Addr → Prop} {h : Heap} {v : Value} (q : RB S h v .none) : v = .none := by
  have := q.rv fun _ e => by cases e
  cases this; rfl
theorem RB.tup {S : Addr → Prop} {h : Heap} {v : Value} {ds : List D} (q : RB S h v (.tup ds)) : ∃ a o vs n, v = .ref a ∧ h.get? a = some o ∧ o.cls = .type "tuple" ∧ o.data = .seq vs n ∧ RVs S h vs.toList ds := by
  have := q.rv fun _ e => by cases e
  cases this with | tup e hc hd r => exact ⟨_, _, _, _, rfl, e, hc, hd, r⟩
theorem out_sh {G : Gd} {cx : Cx} {sc : Scope} {ρ : AEnv} {S : Addr → Prop} {s : Shared} {Q : Value → Shared → Prop} {E : Value → Shared → Prop} {d : D} (out : Out G cx sc true S s (fun S' h' v t => TTmp cx S' h' v t) Q E (.ok (.sh d) ρ))
    (rel : Rel G cx sc ρ S s.heap) {v : Value} {tk : Nat} (q : RV S s.heap v d) : Q v { s with toks := tk } := out v s.heap tk S rel q (Ext.refl ..) fun _ => VarSame.refl _ _
section
variable {G : Gd}
theorem op_sub : Op2 G (binaryOp .Sub) subI := by
  intro cx sc ok ρ S s v w x y t rel rx ry e Q E out
  unfold subI at e; split at e
  · obtain ⟨_, rfl⟩ := rx.int; obtain ⟨_, rfl⟩ := ry.int; cases e
    exact PySem.P.sub_int (out_sh out rel (.int _ _))
  · cases e
theorem bits_small {b : Int} (h : small b = true) : Builtin.Int.intBits b ≤ 64 := by
  unfold small at h; simp only [decide_eq_true_eq] at h
  exact intBits_le_64 (by omega) (by omega)
theorem op_mul : Op2 G (binaryOp .Mult) mulI := by
  intro cx sc ok ρ S s v w x y t rel rx ry e Q E out
  unfold mulI at e; split at e
  · obtain ⟨_, rfl⟩ := rx.int; obtain ⟨_, rfl⟩ := ry.int
    split at e
    · rename_i hs
      cases e
      refine PySem.P.mul_int (out_sh out rel (.int _ _)) ?_
      rcases Bool.or_eq_true_iff.mp hs with q | q
      · exact .of_left (bits_small q)
      · exact .of_right (bits_small q)
    · cases e
  · cases e
theorem op_div : Op2 G (binaryOp .FloorDiv) divI := by
  intro cx sc ok ρ S s v w x y t rel rx ry e Q E out
  unfold divI at e; split at e
  · obtain ⟨_, rfl⟩ := rx.int; obtain ⟨_, rfl⟩ := ry.int
    split at e
    · rename_i hs
      cases e
      exact PyProof.Rows.floordiv_int hs.1 (out_sh out rel (.int _ _)) (.inl (PyProof.noPylong_small hs.2))
    · cases e
  · cases e
theorem op_mod : Op2 G (binaryOp .Mod) modI := by
  intro cx sc ok ρ S s v w x y t rel rx ry e Q E out
  unfold modI at e; split at e
  · obtain ⟨_, rfl⟩ := rx.int; obtain ⟨_, rfl⟩ := ry.int
    split at e
    · rename_i hs
      cases e
      exact PyProof.Rows.mod_int' hs (out_sh out rel (.int _ _))
    · cases e
  · cases e
theorem op_neg : Op1 G (unaryOp .USub) negI := by
  intro cx sc ok ρ S s v x t rel rx e Q E out
  unfold negI at e; split at e
  · obtain ⟨_, rfl⟩ := rx.int; cases e
    exact PySem.P.neg_int (out_sh out rel (.int _ _))
  · cases e
noncomputable def ltI : D → D → Option T
  | .int a, .int b => some (.sh (.bool (decide (a < b))))
  | _, _ => none
noncomputable def leI : D → D → Option T
  | .int a, .int b => some (.sh (.bool (decide (a ≤ b))))
  | _, _ => none
noncomputable def gtI : D → D → Option T
  | .int a, .int b => some (.sh (.bool (decide (b < a))))
  | _, _ => none
theorem op_lt : Op2 G (compareOp .Lt) ltI := by
  intro cx sc ok ρ S s v w x y t rel rx ry e Q E out
  unfold ltI at e; split at e
  · obtain ⟨_, rfl⟩ := rx.int; obtain ⟨_, rfl⟩ := ry.int; cases e
    exact PySem.P.lt_int (out_sh out rel (.bool _))
  · cases e
theorem op_le : Op2 G (compareOp .LtE) leI := by
  intro cx sc ok ρ S s v w x y t rel rx ry e Q E out
  unfold leI at e; split at e
  · obtain ⟨_, rfl⟩ := rx.int; obtain ⟨_, rfl⟩ := ry.int; cases e
    exact PySem.P.le_int (out_sh out rel (.bool _))
  · cases e
theorem op_gt : Op2 G (compareOp .Gt) gtI := by
  intro cx sc ok ρ S s v w x y t rel rx ry e Q E out
  unfold gtI at e; split at e
  · obtain ⟨_, rfl⟩ := rx.int; obtain ⟨_, rfl⟩ := ry.int; cases e
    exact PySem.P.gt_int (out_sh out rel (.bool _))
  · cases e
end
mutual
noncomputable def toPy : D → Option PyData
  | .none => some .none
  | .bool b => some (.bool b)
  | .int i => some (.int i)
  | .str x => some (.str x)
  | .tup ds => (toPys ds).map .tuple
  | .list ds => (toPys ds).map .list
  | _ => none
noncomputable def toPys : List D → Option (List PyData)
  | [] => some []
  | d :: ds => match toPy d, toPys ds with
    | some p, some ps => some (p :: ps)
    | _, _ => none
end
theorem reads_seq {h : Heap} {vs : List Value} {ds : List D} {p : PyData} {k : List PyData → PyData} (r : ∀ {ps : List PyData}, toPys ds = some ps → ∃ as, ReadsAll h vs ps as) (e : (toPys ds).map k = some p) : ∃ ps as, p = k ps ∧ ReadsAll h vs ps as := by
  cases hq : toPys ds with
  | none => rw [hq] at e; cases e
  | some ps =>
    rw [hq] at e; cases e
    obtain ⟨as, q⟩ := r hq
    exact ⟨ps, as, rfl, q⟩
theorem RV.reads {S : Addr → Prop} {h : Heap} {v : Value} {d : D} (q : RV S h v d) : ∀ {p : PyData}, toPy d = some p → ∃ as, Reads h v p as :=
  RV.rec (motive_1 := fun v d _ => ∀ {p : PyData}, toPy d = some p → ∃ as, Reads h v p as) (motive_2 := fun vs ds _ => ∀ {ps : List PyData}, toPys ds = some ps → ∃ as, ReadsAll h vs ps as)
    (fun e => by cases e; exact ⟨_, .none⟩) (fun b _ e => by cases e; exact ⟨_, .bool b⟩) (fun i t _ e => by cases e; exact ⟨_, .int i t⟩) (fun x t _ e => by cases e; exact ⟨_, .str x t⟩)
    (fun a b c _ r _ e => by obtain ⟨ps, as, rfl, q⟩ := reads_seq (k := .tuple) r e; exact ⟨as, .tuple a b c q⟩)
    (fun _ a b c _ r _ e => by obtain ⟨ps, as, rfl, q⟩ := reads_seq (k := .list) r e; exact ⟨_, .list a b.1 c q⟩)
    (fun _ _ e => by cases e) (fun _ _ _ _ _ _ e => by cases e) (fun _ _ _ e => by cases e) (fun _ _ _ _ _ _ _ _ e => by cases e)
    (fun e => by cases e; exact ⟨_, .nil⟩)
    (fun {v d vs ds} _ _ a b _ e => by
      have e : (match toPy d, toPys ds with | some p, some ps => some (p :: ps) | _, _ => Option.none) = some _ := e
      cases hp : toPy d with
      | none => rw [hp] at e; cases e
      | some p =>
        cases hq : toPys ds with
        | none => rw [hp, hq] at e; cases e
        | some ps =>
          rw [hp, hq] at e; cases e
          obtain ⟨as, q'⟩ := a hp
          obtain ⟨bs, r'⟩ := b hq
          exact ⟨_, .cons q' r'⟩) q
noncomputable def eqD (x y : D) : Option Bool := match toPy x, toPy y with
  | some p, some q => if SeqAt.shaped p && SeqAt.shaped q then some (PyData.eqv p q) else none
  | _, _ => none
noncomputable def eqI (x y : D) : Option T := (eqD x y).map fun b => .sh (.bool b)
noncomputable def neI (x y : D) : Option T := (eqD x y).map fun b => .sh (.bool !b)
theorem eqD_reads {S : Addr → Prop} {h : Heap} {v w : Value} {x y : D} {b : Bool} (rx : RB S h v x) (ry : RB S h w y) (e : eqD x y = some b) :
    ∃ p q as bs, Reads h v p as ∧ Reads h w q bs ∧ SeqAt.shaped p = true ∧ SeqAt.shaped q = true ∧ b = PyData.eqv p q := by
  unfold eqD at e
  split at e
  · rename_i p q hp hq
    split at e
    · rename_i hs
      obtain ⟨h1, h2⟩ := Bool.and_eq_true_iff.mp hs
      obtain ⟨as, ra⟩ := RV.reads rx.any hp
      obtain ⟨bs, rb⟩ := RV.reads ry.any hq
      exact ⟨p, q, as, bs, ra, rb, h1, h2, (Option.some.inj e).symm⟩
    · cases e
  · cases e
theorem op_eq {G : Gd} : Op2 G (compareOp .Eq) eqI := by
  intro cx sc ok ρ S s v w x y t rel rx ry e Q E out
  unfold eqI at e
  obtain ⟨b, hb, rfl⟩ := Option.map_eq_some_iff.mp e
  obtain ⟨p, q, as, bs, ra, rb, h1, h2, rfl⟩ := eqD_reads rx ry hb
  exact PyProof.Rows.eq_dataH ra rb h1 h2 (by have := ok.room.2; unfold cLine; omega) (out_sh out rel (tk := s.toks) (.bool _))
theorem op_ne {G : Gd} : Op2 G (compareOp .NotEq) neI := by
  intro cx sc ok ρ S s v w x y t rel rx ry e Q E out
  unfold neI at e
  obtain ⟨b, hb, rfl⟩ := Option.map_eq_some_iff.mp e
  obtain ⟨p, q, as, bs, ra, rb, h1, h2, rfl⟩ := eqD_reads rx ry hb
  exact PyProof.Rows.ne_dataH ra rb h1 h2 (by have := ok.room.2; unfold cLine; omega) (out_sh out rel (tk := s.toks) (.bool _))
noncomputable def isD (x : D) : D → Option Bool
  | .none => (match x with | .none => some true | .glob _ => none | _ => some false)
  | .bool c => (match x with | .bool b => some (b == c) | .glob _ => none | _ => some false)
  | _ => none
noncomputable def isI (x y : D) : Option T := (isD x y).map fun b => .sh (.bool b)
theorem isD_same {S : Addr → Prop} {h : Heap} {v w : Value} {x y : D} {b : Bool} (rx : RB S h v x) (ry : RB S h w y) (e : isD x y = some b) : isSame v w = pure b := by
  have rx := rx.any
  unfold isD at e
  split at e
  · rw [ry.none]
    cases rx <;> first | (cases e; rfl) | (cases e; done)
  · rename_i c
    rw [ry.bool]
    cases rx with
    | bool b' => simp only [Option.some.injEq] at e; subst e; cases b' <;> cases c <;> rfl
    | _ => first | (cases e; rfl) | (cases e; done)
  · cases e
theorem op_is {G : Gd} : Op2 G (compareOp .Is) isI := by
  intro cx sc ok ρ S s v w x y t rel rx ry e Q E out
  unfold isI at e
  obtain ⟨b, hb, rfl⟩ := Option.map_eq_some_iff.mp e
  show wpAny G.M cx.A (do return .bool (← isSame v w)) Q E s
  rw [isD_same rx ry hb]
  exact wpAny_bind (wpAny_pure (wpAny_pure (out_sh out rel (tk := s.toks) (.bool _))))
end Mine
end

section
set_option Elab.async false
set_option maxRecDepth 100000
namespace Mine
open PySem
section
variable {G : Gd} {cx : Cx} {sc : Scope} {ρ : AEnv} {S : Addr → Prop} {s : Shared}
theorem Rel.push (r : Rel G cx sc ρ S s.heap) (o : Obj) : Rel G cx sc ρ S (s.heap.push o) := r.keeps fun _ _ e => Heap.get?_push_of_some _ e
theorem ext_push {S : Addr → Prop} {h : Heap} (o : Obj) : Ext S h S (h.push o) := Ext.of_keeps fun _ _ e => Heap.get?_push_of_some _ e
theorem kp_push {h : Heap} (o : Obj) : Kp h (h.push o) := Kp.of_keeps fun _ _ e => Heap.get?_push_of_some _ e
theorem does_newTuple {vs : List Value} {ds : List D} (r : Rel G cx sc ρ S s.heap) (q : RVs S s.heap vs ds) (hl : ds.length ≤ 1000000) :
    Does G cx sc true (newTuple vs) S s (fun S' h' v t => TTmp cx S' h' v t) (.ok (.sh (.tup ds)) ρ) := by
  intro Q E out
  refine wpAny_newObj_type (out _ _ s.toks S (r.push _) ?_ (ext_push _) fun _ => r.same (kp_push _)) ?_
  · exact .tup (Heap.get?_push_size _ rfl) rfl rfl (by simpa using q.ext (ext_push _))
  · show vs.toArray.size ≤ sizeLine
    rw [List.size_toArray, q.length, sizeLine_eq]; omega
theorem fresh_list {h' : Heap} {a : Addr} {vs : Array Value} {n : Nat} {ds : List D} (r : Rel G cx sc ρ S s.heap) (k : Kp s.heap h') (e : s.heap.get? a = none) (e' : h'.get? a = some { cls := .type "list", data := .seq vs n }) (q : RVs S h' vs.toList ds) :
    Fresh cx S h' (.ref a) (.list ds) := by
  refine ⟨a, rfl, fun q => ?_, ⟨vs, n, e', q⟩, r.keep.none e, fun x hd q => ?_⟩
  · obtain ⟨o, e₁⟩ := r.sdom _ q; rw [e] at e₁; cases e₁
  · obtain ⟨o, e₁⟩ := r.live x _ hd (Var.of_kp k r.ns r.cells q); rw [e] at e₁; cases e₁
theorem does_newList {vs : List Value} {ds : List D} (r : Rel G cx sc ρ S s.heap) (q : RVs S s.heap vs ds) (hl : ds.length ≤ 1000000) :
    Does G cx sc true (newList vs) S s (fun S' h' v t => TTmp cx S' h' v t) (.ok (.ow true (.list ds)) ρ) := by
  intro Q E out
  refine wpAny_newObj_type (out _ _ s.toks S (r.push _) ?_ (ext_push _) fun _ => r.same (kp_push _)) ?_
  · exact fresh_list r (kp_push _) (Heap.get?_none_of_le (Nat.le_refl _)) (Heap.get?_push_size _ rfl) (by simpa using q.ext (ext_push _))
  · show vs.toArray.size ≤ sizeLine
    rw [List.size_toArray, q.length, sizeLine_eq]; omega
end
noncomputable def SimVs (G : Gd) (k : Nat) (sc : Scope) (es : List Expr) (f : AEnv → Res (List D)) : Prop :=
  ∀ pos cx, CxOk G cx sc k → ∀ ρ S s, Rel G cx sc ρ S s.heap → Does G cx sc true (spliced (backTo pos (starEach es cx.env))) S s (fun S' h' vs ds => RVs S' h' vs ds) (f ρ)
noncomputable def eNil : AEnv → Res (List D) := fun ρ => .ok [] ρ
noncomputable def eCons (f : AEnv → Res T) (g : AEnv → Res (List D)) : AEnv → Res (List D) := fun ρ => (f ρ).bind fun t ρ₁ => (g ρ₁).bind fun ds ρ₂ => .ok (t.val :: ds) ρ₂
noncomputable def unstarred : Expr → Bool
  | .Starred .. => false
  | _ => true
theorem starEach_cons {e : Expr} {rest : List Expr} {env : Env} (h : unstarred e = true) : starEach (e :: rest) env = (false, eval e env) :: starEach rest env := by
  cases e <;> first | rfl | cases h
section
variable {G : Gd} {k : Nat} {sc : Scope}
theorem simVs_nil : SimVs G k sc [] eNil := fun pos cx ok ρ S s r => Does.pure r .nil
theorem spliced_items {pos : Pos} {e : Expr} {rest : List Expr} {env : Env} (h : unstarred e = true) : spliced (backTo pos (starEach (e :: rest) env)) = (do
    let v ← eval e env
    let here ← (pure [v] : Sem (List Value))
    return here ++ (← holding here (spliced (backTo pos (starEach rest env))))) := by
  rw [starEach_cons h]; rfl
theorem Does.shared {cx : Cx} {S : Addr → Prop} {s : Shared} {m : Sem Value} {r : Res T} (h : Does G cx sc true m S s (fun S' h' v t => TTmp cx S' h' v t) r) :
    Does G cx sc true m S s (fun S' h' v d => RV S' h' v d) (r.bind fun t ρ => .ok t.val ρ) := by
  intro Q E out
  refine h Q E ?_
  cases r with
  | stuck => exact out
  | exc C ρ => exact out
  | ok t ρ =>
    intro v h' tk S' rel j x vs
    obtain ⟨S₂, rel₂, rv, x₂⟩ := rel.drop j
    exact out v h' tk S₂ rel₂ rv (x.trans x₂) vs
theorem bind_ok {α β γ : Type} (r : Res α) (f : α → β) (g : β → AEnv → Res γ) : (r.bind fun a ρ => .ok (f a) ρ).bind g = r.bind fun a ρ => g (f a) ρ := by
  cases r <;> rfl
theorem simVs_cons {e : Expr} {rest : List Expr} {f : AEnv → Res T} {g : AEnv → Res (List D)} (he : Sim G k sc e f) (hr : SimVs G k sc rest g) (hs : unstarred e = true) : SimVs G k sc (e :: rest) (eCons f g) := by
  intro pos cx ok ρ S s r
  rw [spliced_items hs]
  unfold eCons
  rw [← bind_ok (f ρ) T.val (fun d ρ₁ => (g ρ₁).bind fun ds ρ₂ => .ok (d :: ds) ρ₂)]
  refine Does.bind (he cx ok ρ S s r).shared fun d ρ₁ v h₁ t₁ S₁ _ r₁ j₁ x₁ v₁ => ?_
  intro Q E out
  refine wpAny_bind (wpAny_pure ?_)
  refine (Does.bind (J' := fun S' h' vs ds => RVs S' h' vs ds) (Does.holding (hr pos cx ok ρ₁ S₁ { s with heap := h₁, toks := t₁ } r₁)) fun ds ρ₂ vs h₂ t₂ S₂ _ r₂ j₂ x₂ v₂ => ?_) Q E out
  exact Does.pure r₂ (.cons (j₁.ext x₂) j₂)
end
noncomputable def eTup (f : AEnv → Res (List D)) : AEnv → Res T := fun ρ => (f ρ).bind fun ds ρ₁ => if ds.length ≤ 1000000 then .ok (.sh (.tup ds)) ρ₁ else .stuck
noncomputable def eLst (f : AEnv → Res (List D)) : AEnv → Res T := fun ρ => (f ρ).bind fun ds ρ₁ => if ds.length ≤ 1000000 then .ok (.ow true (.list ds)) ρ₁ else .stuck
section
variable {G : Gd} {k : Nat} {sc : Scope}
theorem sim_Tuple {es : List Expr} {n : Nat} {pos : Pos} {f : AEnv → Res (List D)} (h : SimVs G k sc es f) : Sim G k sc (.Tuple es n pos) (eTup f) := by
  intro cx ok ρ S s r
  show Does G cx sc true (do standAt pos; newTuple (← spliced (backTo pos (starEach es cx.env)))) S s _ _
  refine Does.standAt (Does.bind (h pos cx ok ρ S s r) fun ds ρ₁ vs h₁ t₁ S₁ _ r₁ j₁ x₁ v₁ => ?_)
  split
  · rename_i hl; exact does_newTuple (s := { s with heap := h₁, toks := t₁ }) r₁ j₁ hl
  · exact Does.stuck
theorem sim_List {es : List Expr} {pos : Pos} {f : AEnv → Res (List D)} (h : SimVs G k sc es f) : Sim G k sc (.List es pos) (eLst f) := by
  intro cx ok ρ S s r
  show Does G cx sc true (do standAt pos; newList (← spliced (backTo pos (starEach es cx.env)))) S s _ _
  refine Does.standAt (Does.bind (h pos cx ok ρ S s r) fun ds ρ₁ vs h₁ t₁ S₁ _ r₁ j₁ x₁ v₁ => ?_)
  split
  · rename_i hl; exact does_newList (s := { s with heap := h₁, toks := t₁ }) r₁ j₁ hl
  · exact Does.stuck
end
noncomputable def SimT (G : Gd) (k : Nat) (sc : Scope) (e : Expr) (f : AEnv → Res Bool) : Prop :=
  ∀ cx, CxOk G cx sc k → ∀ ρ S s, Rel G cx sc ρ S s.heap → Does G cx sc true (isTrue e cx.env (eval e cx.env)) S s (fun _ _ a b => a = b) (f ρ)
noncomputable def asB : D → Option Bool
  | .bool b => some b
  | _ => none
noncomputable def eTruth (f : AEnv → Res Bv) : AEnv → Res Bool := fun ρ => (f ρ).bind fun a ρ₁ => match a.get ρ₁ with
  | some x => (match asB x with | some b => .ok b ρ₁ | none => .stuck)
  | none => .stuck
noncomputable def eNot (f : AEnv → Res Bool) : AEnv → Res Bool := fun ρ => (f ρ).bind fun b ρ₁ => .ok (!b) ρ₁
noncomputable def eAndNil : AEnv → Res Bool := fun ρ => .ok true ρ
noncomputable def eOrNil : AEnv → Res Bool := fun ρ => .ok false ρ
noncomputable def eAnd (f g : AEnv → Res Bool) : AEnv → Res Bool := fun ρ => (f ρ).bind fun b ρ₁ => if b then g ρ₁ else .ok false ρ₁
noncomputable def eOr (f g : AEnv → Res Bool) : AEnv → Res Bool := fun ρ => (f ρ).bind fun b ρ₁ => if b then .ok true ρ₁ else g ρ₁
noncomputable def eTest2 (F : D → D → Option T) (f g : AEnv → Res Bv) : AEnv → Res Bool := fun ρ => (f ρ).bind fun a ρ₁ => (g ρ₁).bind fun b ρ₂ => match a.get ρ₂, b.get ρ₂ with
  | some x, some y => (match F x y with | some (.sh (.bool b)) => .ok b ρ₂ | _ => .stuck)
  | _, _ => .stuck
section
variable {G : Gd} {k : Nat} {sc : Scope}
theorem simT_val {e : Expr} {f : AEnv → Res Bv} (h : SimB G k sc e f) (he : ∀ env whole, isTrue e env whole = (do let v ← whole; standAt e.pos; holding [v] (truthy v))) : SimT G k sc e (eTruth f) := by
  intro cx ok ρ S s r
  rw [he]
  refine Does.bind (h cx ok ρ S s r) fun a ρ₁ va h₁ t₁ S₁ _ r₁ ja x₁ v₁ => ?_
  refine Does.standAt (Does.holding ?_)
  split
  · rename_i x hx
    split
    · rename_i b hb
      have rb := BVal.rb ja r₁ hx
      unfold asB at hb
      split at hb
      · cases hb
        rw [rb.bool]
        intro Q E out
        exact wpAny_truthy_bool (out _ h₁ t₁ S₁ r₁ rfl (Ext.refl ..) fun _ => VarSame.refl _ _)
      · cases hb
    · exact Does.stuck
  · exact Does.stuck
theorem simT_not {x : Expr} {pos : Pos} {f : AEnv → Res Bool} (h : SimT G k sc x f) : SimT G k sc (.UnaryOp .Not x pos) (eNot f) := by
  intro cx ok ρ S s r
  show Does G cx sc true (do return !(← isTrue x cx.env (eval x cx.env))) S s _ _
  refine Does.bind (h cx ok ρ S s r) fun b ρ₁ a h₁ t₁ S₁ _ r₁ j x₁ v₁ => ?_
  exact Does.pure r₁ (by rw [j])
noncomputable def SimTs (G : Gd) (k : Nat) (sc : Scope) (op : BoolOp) (es : List Expr) (f : AEnv → Res Bool) : Prop :=
  ∀ cx, CxOk G cx sc k → ∀ ρ S s, Rel G cx sc ρ S s.heap → Does G cx sc true (allTrue op es cx.env) S s (fun _ _ a b => a = b) (f ρ)
theorem simTs_and_nil : SimTs G k sc .And [] eAndNil := fun _ _ _ _ _ r => Does.pure r rfl
theorem simTs_or_nil : SimTs G k sc .Or [] eOrNil := fun _ _ _ _ _ r => Does.pure r rfl
theorem simTs_and {x : Expr} {rest : List Expr} {f g : AEnv → Res Bool} (hx : SimT G k sc x f) (hr : SimTs G k sc .And rest g) : SimTs G k sc .And (x :: rest) (eAnd f g) := by
  intro cx ok ρ S s r
  show Does G cx sc true (do match BoolOp.And, ← isTrue x cx.env (eval x cx.env) with | .And, false => pure false | .Or, true => pure true | _, _ => allTrue .And rest cx.env) S s _ _
  refine Does.bind (hx cx ok ρ S s r) fun b ρ₁ a h₁ t₁ S₁ _ r₁ j x₁ v₁ => ?_
  subst j
  cases a
  · exact Does.pure r₁ rfl
  · exact hr cx ok ρ₁ S₁ _ r₁
theorem simTs_or {x : Expr} {rest : List Expr} {f g : AEnv → Res Bool} (hx : SimT G k sc x f) (hr : SimTs G k sc .Or rest g) : SimTs G k sc .Or (x :: rest) (eOr f g) := by
  intro cx ok ρ S s r
  show Does G cx sc true (do match BoolOp.Or, ← isTrue x cx.env (eval x cx.env) with | .And, false => pure false | .Or, true => pure true | _, _ => allTrue .Or rest cx.env) S s _ _
  refine Does.bind (hx cx ok ρ S s r) fun b ρ₁ a h₁ t₁ S₁ _ r₁ j x₁ v₁ => ?_
  subst j
  cases a
  · exact hr cx ok ρ₁ S₁ _ r₁
  · exact Does.pure r₁ rfl
theorem simT_boolOp {op : BoolOp} {es : List Expr} {pos : Pos} {f : AEnv → Res Bool} (h : SimTs G k sc op es f) : SimT G k sc (.BoolOp op es pos) f := by
  intro cx ok ρ S s r
  rw [arm_isTrue_BoolOp]; exact h cx ok ρ S s r
theorem does_truth {cx : Cx} {ρ : AEnv} {S : Addr → Prop} {s : Shared} {m : Sem Value} {t : T} (h : Does G cx sc true m S s (fun S' h' v t => TTmp cx S' h' v t) (.ok t ρ)) {vs : Value → List Value} :
    Does G cx sc true (do let c ← m; holding (vs c) (truthy c)) S s (fun _ _ a b => a = b) (match t with | .sh (.bool b) => .ok b ρ | _ => .stuck) := by
  intro Q E out
  refine wpAny_bind (h _ _ ?_)
  intro v h' tk S' rel j x v'
  refine wpAny_holding ?_
  split at out
  · rename_i b
    cases j with
    | bool b => exact wpAny_truthy_bool (out _ h' tk S' rel rfl x v')
  · exact out.elim
theorem simT_Compare1 {l r : Expr} {op : CmpOp} {pos : Pos} {f g : AEnv → Res Bv} {F : D → D → Option T} (hl : SimB G k sc l f) (hr : SimB G k sc r g) (hop : Op2 G (compareOp op) F)
    (hm : behindInMarks op r = false) : SimT G k sc (.Compare l [op] [r] pos) (eTest2 F f g) := by
  intro cx ok ρ S s rel
  rw [isTrue_Compare1, markedBehindIn_of_false hm]
  refine does_two (K := fun x y ρ₂ => match F x y with | some (.sh (.bool b)) => .ok b ρ₂ | _ => .stuck) hl hr ok rel fun ρ' S' h' tk v w x y rel' rx ry => ?_
  refine Does.standAt ?_
  cases hF : F x y with
  | none => exact Does.stuck
  | some t =>
    have := does_truth (vs := fun c => [c]) (Does.operate (vs := [v, w]) (hop cx sc (ok.mono (Nat.zero_le _)) ρ' S' { s with heap := h', toks := tk } v w x y t rel' rx ry hF))
    cases t with
    | sh d => cases d <;> exact this
    | ow m d => exact this
end
noncomputable def eChain (F F' : D → D → Option T) (f g h : AEnv → Res Bv) : AEnv → Res Bool := fun ρ => (f ρ).bind fun a ρ₁ => (g ρ₁).bind fun b ρ₂ => match a.get ρ₂, b.get ρ₂ with
  | some x, some y => (match F x y with
    | some (.sh (.bool true)) => (h ρ₂).bind fun c ρ₃ => (match b.get ρ₃, c.get ρ₃ with
      | some y', some z => (match F' y' z with | some (.sh (.bool b)) => .ok b ρ₃ | _ => .stuck)
      | _, _ => .stuck)
    | some (.sh (.bool false)) => .ok false ρ₂
    | _ => .stuck)
  | _, _ => .stuck
theorem simT_chain {G : Gd} {k : Nat} {sc : Scope} {l m r : Expr} {op op' : CmpOp} {pos : Pos} {f g h : AEnv → Res Bv} {F F' : D → D → Option T} (hl : SimB G k sc l f) (hm : SimB G k sc m g) (hr : SimB G k sc r h) (hop : Op2 G (compareOp op) F) (hop' : Op2 G (compareOp op') F')
    (hb : behindInMarks op' r = false) : SimT G k sc (.Compare l [op, op'] [m, r] pos) (eChain F F' f g h) := by
  intro cx ok ρ S s rel
  show Does G cx sc true (do testChain pos (← eval l cx.env) [op, op'] [eval m cx.env, markedBehindIn op' r (eval r cx.env)]) S s _ _
  rw [markedBehindIn_of_false hb]
  show Does G cx sc true (do
    let a ← eval l cx.env
    let rv ← holding [a] (eval m cx.env)
    standAt pos
    let c ← holding [a, rv] (compareOp op a rv)
    release [a, rv] [c]
    if ← holding [c, rv] (truthy c) then testChain pos rv [op'] [eval r cx.env] else pure false) S s _ _
  unfold eChain
  refine Does.bind (hl cx ok ρ S s rel) fun a ρ₁ va h₁ t₁ S₁ _ rel₁ ja x₁ v₁ => ?_
  refine Does.bind (Does.holding (hm cx ok ρ₁ S₁ { s with heap := h₁, toks := t₁ } rel₁)) fun b ρ₂ vb h₂ t₂ S₂ _ rel₂ jb x₂ v₂ => ?_
  have ja₂ : BVal cx sc S₂ h₂ va a := BVal.ext ja x₂ (v₂ rfl)
  refine Does.standAt ?_
  split
  · rename_i x y hx hy
    have rx := ja₂.rb rel₂ hx
    have ry := BVal.rb jb rel₂ hy
    cases hF : F x y with
    | none => exact Does.stuck
    | some t =>
      have hc := hop cx sc (ok.mono (Nat.zero_le _)) ρ₂ S₂ { s with heap := h₂, toks := t₂ } va vb x y t rel₂ rx ry hF
      intro Q E out
      refine wpAny_bind (wpAny_holding (hc _ _ ?_))
      intro c h₃ t₃ S₃ rel₃ j₃ x₃ v₃
      refine wpAny_bind (wpAny_release ?_)
      refine wpAny_bind (wpAny_holding ?_)
      cases t with
      | ow m d => exact out.elim
      | sh d =>
        cases d with
        | bool b' =>
          cases j₃
          refine wpAny_truthy_bool ?_
          cases b' with
          | false => exact wpAny_pure (out _ h₃ t₃ S₃ rel₃ rfl x₃ v₃)
          | true =>
            have jb₃ : BVal cx sc S₃ h₃ vb b := BVal.ext jb x₃ (v₃ rfl)
            show wpAny _ _ (do let rv ← holding [vb] (eval r cx.env); standAt pos; let c ← operate [vb, rv] (compareOp op' vb rv); holding [c] (truthy c)) _ _ _
            have step : Does G cx sc true (do let rv ← holding [vb] (eval r cx.env); standAt pos; let c ← operate [vb, rv] (compareOp op' vb rv); holding [c] (truthy c)) S₃ { s with heap := h₃, toks := t₃ } (fun _ _ a b => a = b)
                ((h ρ₂).bind fun c ρ₃ => (match b.get ρ₃, c.get ρ₃ with
                  | some y', some z => (match F' y' z with | some (.sh (.bool b)) => .ok b ρ₃ | _ => .stuck)
                  | _, _ => .stuck)) := by
              refine Does.bind (Does.holding (hr cx ok ρ₂ S₃ { s with heap := h₃, toks := t₃ } rel₃)) fun c' ρ₄ vc h₄ t₄ S₄ _ rel₄ jc x₄ v₄ => ?_
              have jb₄ : BVal cx sc S₄ h₄ vb b := BVal.ext jb₃ x₄ (v₄ rfl)
              refine Does.standAt ?_
              split
              · rename_i y' z hy' hz
                cases hF' : F' y' z with
                | none => exact Does.stuck
                | some t' =>
                  have := does_truth (vs := fun c => [c]) (Does.operate (vs := [vb, vc]) (hop' cx sc (ok.mono (Nat.zero_le _)) ρ₄ S₄ { s with heap := h₄, toks := t₄ } vb vc y' z t' rel₄ (jb₄.rb rel₄ hy') (BVal.rb jc rel₄ hz) hF'))
                  cases t' with
                  | sh d => cases d <;> exact this
                  | ow m d => exact this
              · exact Does.stuck
            refine step Q E ?_
            cases hr' : (h ρ₂).bind fun c ρ₃ => (match b.get ρ₃, c.get ρ₃ with
                  | some y', some z => (match F' y' z with | some (.sh (.bool b)) => .ok b ρ₃ | _ => .stuck)
                  | _, _ => .stuck) with
            | stuck => rw [hr'] at out; exact out
            | exc C ρ' => rw [hr'] at out; intro e h' tk S' rel' fly x'; exact out e h' tk S' rel' (fly.back x₃) (x₃.trans x')
            | ok b ρ' => rw [hr'] at out; intro a h' tk S' rel' j x' v'; exact out a h' tk S' rel' j (x₃.trans x') fun q => (v₃ q).trans (v' q)
        | _ => exact out.elim
  · exact Does.stuck
end Mine
end

section
set_option Elab.async false
set_option maxRecDepth 100000
namespace Mine
open PySem
structure KpE (B h : Heap) (e : Addr) (g h' : Heap) : Prop where
  keep : ∀ b o, g.get? b = some o → b ≠ e → (o.cls ≠ .type "traceback" ∨ ∃ o₀, h.get? b = some o₀) → ∃ sl, h'.get? b = some { o with slots := sl } ∧ (NotDict o → sl = o.slots)
  base : ∀ b o, B.get? b = some o → g.get? b = some o → b ≠ e → (∃ o₀, h.get? b = some o₀) → h'.get? b = some o
  dom : ∀ b o, g.get? b = some o → ∃ o', h'.get? b = some o'
  kd : ∀ b o es n, g.get? b = some o → o.data = .dict es n → ∃ sl, h'.get? b = some { o with slots := sl }
theorem KpE.trans {B h : Heap} {e : Addr} {g₁ g₂ g₃ : Heap} (x : KpE B h e g₁ g₂) (y : KpE B h e g₂ g₃) : KpE B h e g₁ g₃ where
  keep := fun b o eb hb q => by
    obtain ⟨sl, e₁, k₁⟩ := x.keep b o eb hb q
    obtain ⟨sl', e₂, k₂⟩ := y.keep b _ e₁ hb q
    exact ⟨sl', e₂, fun hn => (k₂ hn).trans (k₁ hn)⟩
  base := fun b o eb eg hb q => y.base b o eb (x.base b o eb eg hb q) hb q
  dom := fun b o eb => let ⟨o', e'⟩ := x.dom b o eb; y.dom b o' e'
  kd := fun b o es n eb hd => by
    obtain ⟨sl, e₁⟩ := x.kd b o es n eb hd
    obtain ⟨sl', e₂⟩ := y.kd b _ es n e₁ hd
    exact ⟨sl', e₂⟩
theorem KpE.refl (B h : Heap) (e : Addr) (g : Heap) : KpE B h e g g := ⟨fun _ o eb _ _ => ⟨o.slots, eb, fun _ => rfl⟩, fun _ _ _ e _ _ => e, fun _ o eb => ⟨o, eb⟩, fun _ o _ _ eb _ => ⟨o.slots, eb⟩⟩
noncomputable def FlyT (h h' : Heap) (e C : Addr) : Prop := h.get? e = none ∧ ∃ oe vs T oT ts, h'.get? e = some oe ∧ oe.cls = .ref C ∧ oe.dict = none ∧ oe.data = .fields vs ∧ vs[2]? = some .none ∧
  vs[1]? = some (.ref T) ∧ T ≠ e ∧ h.get? T = none ∧ h'.get? T = some oT ∧ oT.cls = .type "traceback" ∧ oT.data = .fields ts ∧ 3 < ts.size
theorem FlyT.fly {h h' : Heap} {e C : Addr} (x : FlyT h h' e C) : Fly h h' e C := by
  obtain ⟨n, oe, vs, T, oT, ts, a, b, b', c, d, k⟩ := x
  exact ⟨n, oe, vs, a, b, b', c, d, .inr ⟨T, oT, ts, k⟩⟩
theorem dict_mapFields (f : Array Value → Array Value) (o : Obj) : (Obj.mapFields f o).dict = o.dict := by
  obtain ⟨c, d, dt, sl⟩ := o
  cases dt <;> rfl
theorem setIf2 {vs : Array Value} {x : Value} (h : vs[2]? = some .none) : (vs.setIfInBounds 1 x)[2]? = some .none := by
  rw [Array.getElem?_setIfInBounds_ne (by decide)]; exact h
section
variable {M : Model} {A : Around} {E : Value → Shared → Prop} {s : Shared} {B h : Heap} {fs : List Env} {env : Env} {e C : Addr}
theorem frameOf_same {env env' : Env} (h : env.frame = env'.frame) : frameOf env = frameOf env' := by unfold frameOf; rw [h]
theorem FF.notFrame (ff : FF B s.heap fs) {b : Addr} {o : Obj} (eb : s.heap.get? b = some o) (hn : NotDict o) : b ∉ fs.filterMap (·.frame) := fun hm => by
  obtain ⟨env, he, hf⟩ := List.mem_filterMap.mp hm
  obtain ⟨_, L, o', h1, _, h3, es, n, h4⟩ := ff env he
  rw [h1] at hf; cases hf
  rw [eb] at h3; cases h3
  exact hn es n h4
theorem wp_entry {L : Addr} {oe : Obj} {vs : Array Value} {head : Value} {hadNext : Bool} {Q : Unit → Shared → Prop} (hfr : A.frames = some fs) (ff : FF B s.heap fs) (top : ∃ env₀ outer, fs = env₀ :: outer ∧ env.frame = env₀.frame) (hf : env.frame = some L)
    (hne : h.get? e = none) (dom : ∀ b o, h.get? b = some o → ∃ o', s.heap.get? b = some o') (he : s.heap.get? e = some oe) (hc : oe.cls = .ref C) (hdn : oe.dict = none) (hd : oe.data = .fields vs) (hsz : 1 < vs.size) (h2 : vs[2]? = some .none)
    (hQ : ∀ h', KpE B h e s.heap h' → FlyT h h' e C → Q () { s with heap := h' }) :
    wpAny M A (do let a ← frameOf env; let pl ← entryPlaceOf L hadNext; let b ← EntryCells.newEntry head a .none (rawInt L) .none pl; setField (.ref e) 1 b) Q E s := by
  obtain ⟨env₀, outer, rfl, hee⟩ := top
  rw [frameOf_same hee]
  have hene : e ∉ (env₀ :: outer).filterMap (·.frame) := ff.notFrame he (.fields hd)
  refine wpAny_bind (wpAny_frameOf_fun (base := B) hfr ff.fun (hee.symm.trans hf) fun h₁ hs₁ => ?_)
  refine wpAny_bind (wpAny_entryPlaceOf fun pl hpl => ?_)
  unfold EntryCells.newEntry newFields
  refine wpAny_bind (wpAny_newObj_type ?_ (hpl.sizeOk5 _ _ _ _ _))
  have he₁ : h₁.get? e = some oe := (hs₁.2.1 e hene).trans he
  have he₂ := Heap.get?_push_of_some (h := h₁) { cls := .type "traceback", dict := none, data := .fields ([head, .ref L, .none, rawInt L, .none] ++ (if pl.isEmpty then List.replicate 6 Value.none else pl)).toArray } he₁
  refine wpAny_setField he₂ hd hsz (hQ _ ?_ ?_)
  · have keep : ∀ b o, b ≠ e → h₁.get? b = some o → ((h₁.push { cls := .type "traceback", dict := none, data := .fields ([head, .ref L, .none, rawInt L, .none] ++ (if pl.isEmpty then List.replicate 6 Value.none else pl)).toArray }).update e (Obj.mapFields (·.setIfInBounds 1 (Value.ref h₁.objs.size)))).get? b = some o := fun b o hbe hb => by
      rw [Heap.get?_update_other _ _ (Ne.symm hbe)]
      exact Heap.get?_push_of_some _ hb
    refine ⟨fun b o eb hb _ => ?_, fun b o eB eb hb _ => ?_, fun b o eb => ?_, fun b o es n eb hbd => ?_⟩
    rotate_right
    · have hb : b ≠ e := by rintro rfl; rw [he] at eb; cases eb; rw [hd] at hbd; cases hbd
      obtain ⟨sl, e₁⟩ := hs₁.2.2 b o eb
      exact ⟨sl, keep b _ hb e₁⟩
    · obtain ⟨sl, e₁⟩ := hs₁.2.2 b o eb
      refine ⟨sl, keep b _ hb e₁, fun hn => ?_⟩
      have := hs₁.2.1 b (ff.notFrame eb hn)
      rw [eb, e₁] at this
      injection this with this
      have := congrArg Obj.slots this
      exact this
    · refine keep b o hb ((hs₁.2.1 b fun hm => ?_).trans eb)
      obtain ⟨env', he', hf'⟩ := List.mem_filterMap.mp hm
      obtain ⟨_, L', o', h1', h2', _⟩ := ff env' he'
      rw [h1'] at hf'; cases hf'
      rw [h2'] at eB; cases eB
    · by_cases hb : b = e
      · subst hb; exact ⟨_, Heap.get?_update_self _ he₂ (Obj.isFreed_of_fields (Obj.data_mapFields hd _))⟩
      · obtain ⟨sl, e₁⟩ := hs₁.2.2 b o eb
        exact ⟨_, keep b _ hb e₁⟩
  · have hTe : h₁.objs.size ≠ e := Nat.ne_of_gt (Heap.lt_size he₁)
    refine ⟨hne, _, _, h₁.objs.size, _, _, Heap.get?_update_self _ he₂ (Obj.isFreed_of_fields (Obj.data_mapFields hd _)), (Obj.cls_mapFields _ _).trans hc, (dict_mapFields _ _).trans hdn, Obj.data_mapFields hd _, setIf2 h2, by simp [hsz], hTe, ?_, (Heap.get?_update_other _ _ (Ne.symm hTe)).trans (Heap.get?_push_size h₁ rfl), rfl, rfl, ?_⟩
    · cases q : h.get? h₁.objs.size with
      | none => rfl
      | some o =>
        obtain ⟨o', e'⟩ := dom _ _ q
        obtain ⟨sl, e₁⟩ := hs₁.2.2 _ o' e'
        exact absurd (Heap.lt_size e₁) (Nat.lt_irrefl _)
    · simp only [List.size_toArray, List.length_append, List.length_cons, List.length_nil]; omega
theorem upd_other {g : Heap} {T : Addr} {f : Obj → Obj} {oT : Obj} {ts : Array Value} (hT : g.get? T = some oT) (hc : oT.cls = .type "traceback") (hd : oT.data = .fields ts) (hTn : h.get? T = none) (hfr : (f oT).isFreed = false) : KpE B h e g (g.update T f) := by
  have ne : ∀ b o, g.get? b = some o → (o.cls ≠ .type "traceback" ∨ ∃ o₀, h.get? b = some o₀) → T ≠ b := fun b o eb q hb => by
    subst hb
    rcases q with q | ⟨o₀, q⟩
    · rw [hT] at eb; cases eb; exact q hc
    · rw [hTn] at q; cases q
  refine ⟨fun b o eb _ q => ⟨o.slots, (Heap.get?_update_other _ _ (ne b o eb q)).trans eb, fun _ => rfl⟩, fun b o _ eb _ q => (Heap.get?_update_other _ _ (ne b o eb (.inr q))).trans eb, fun b o eb => ?_, fun b o es n eb hbd => ⟨o.slots, (Heap.get?_update_other _ _ (by rintro rfl; rw [hT] at eb; cases eb; rw [hd] at hbd; cases hbd)).trans eb⟩⟩
  by_cases hb : T = b
  · subst hb; rw [hT] at eb; cases eb; exact ⟨_, Heap.get?_update_self _ hT hfr⟩
  · exact ⟨o, (Heap.get?_update_other _ _ hb).trans eb⟩
theorem wp_noteFrame {Q : Unit → Shared → Prop} (hfr : A.frames = some fs) (ff : FF B s.heap fs) (top : ∃ env₀ outer, fs = env₀ :: outer ∧ env.frame = env₀.frame)
    (fly : Fly h s.heap e C) (dom : ∀ b o, h.get? b = some o → ∃ o', s.heap.get? b = some o') (hQ : ∀ h', KpE B h e s.heap h' → FlyT h h' e C → Q () { s with heap := h' }) :
    wpAny M A (noteFrame (.ref e) env) Q E s := by
  obtain ⟨L, hf⟩ : ∃ L, env.frame = some L := by
    obtain ⟨env₀, outer, rfl, hee⟩ := top
    obtain ⟨_, L, _, h1, _⟩ := ff env₀ (.head _)
    exact ⟨L, hee.trans h1⟩
  obtain ⟨hne, oe, vs, he, hc, hdn, hd, h2, ht⟩ := fly
  unfold noteFrame
  simp only [hf]
  rcases ht with h1 | ⟨T, oT, ts, h1, hTe, hTn, hT, hcT, hdT, h3⟩
  · refine wpAny_bind (wpAny_field he hd h1 ?_)
    rw [if_neg (by decide)]
    exact wp_entry hfr ff top hf hne dom he hc hdn hd (Array.getElem?_eq_some_iff.mp h1).1 h2 hQ
  · refine wpAny_bind (wpAny_field he hd h1 ?_)
    rw [if_pos (show (Value.ref T != Value.none) = true from by simp)]
    refine wpAny_bind (wpAny_field hT hdT (x := ts[3]) (by simp [h3]) ?_)
    by_cases hq : (ts[3] == rawInt L) = true
    · rw [if_pos hq]
      exact wpAny_pure (hQ s.heap (.refl ..) ⟨hne, oe, vs, T, oT, ts, he, hc, hdn, hd, h2, h1, hTe, hTn, hT, hcT, hdT, h3⟩)
    · rw [if_neg hq]
      refine wpAny_bind (wpAny_setField hT hdT h3 ?_)
      have kp : KpE B h e s.heap (s.heap.update T (Obj.mapFields (·.setIfInBounds 3 Value.none))) := upd_other hT hcT hdT hTn (Obj.isFreed_of_fields (Obj.data_mapFields hdT _))
      refine wp_entry (h := h) (fs := fs) (B := B) (s := { s with heap := s.heap.update T (Obj.mapFields (·.setIfInBounds 3 Value.none)) }) hfr (fun env' he' => ?_) top hf hne (fun b o q => ?_) ((Heap.get?_update_other _ _ hTe).trans he) hc hdn hd (Array.getElem?_eq_some_iff.mp h1).1 h2
        fun h' k f => hQ h' (kp.trans k) f
      · obtain ⟨a, L', o, b, c, d, es, n, k⟩ := ff env' he'
        refine ⟨a, L', o, b, c, (Heap.get?_update_other _ _ ?_).trans d, es, n, k⟩
        rintro rfl
        rw [hT] at d; cases d; rw [hdT] at k; cases k
      · obtain ⟨o', q'⟩ := dom b o q
        exact kp.dom b o' q'
theorem wp_setFlight {Q : Unit → Shared → Prop} {fr : Option Addr} (fly : FlyT h s.heap e C) (hQ : ∀ h', KpE B h e s.heap h' → FlyT h h' e C → Q () { s with heap := h' }) : wpAny M A (setFlight (.ref e) fr) Q E s := by
  obtain ⟨hne, oe, vs, T, oT, ts, he, hc, hdn, hd, h2, h1, hTe, hTn, hT, hcT, hdT, h3⟩ := fly
  unfold setFlight
  refine wpAny_bind (wpAny_field he hd h1 ?_)
  rw [if_pos (show (Value.ref T != Value.none) = true from by simp)]
  refine wpAny_setField hT hdT h3 (hQ _ (upd_other hT hcT hdT hTn (Obj.isFreed_of_fields (Obj.data_mapFields hdT _))) ?_)
  refine ⟨hne, oe, vs, T, _, _, (Heap.get?_update_other _ _ hTe).trans he, hc, hdn, hd, h2, h1, hTe, hTn, Heap.get?_update_self _ hT (Obj.isFreed_of_fields (Obj.data_mapFields hdT _)), (Obj.cls_mapFields _ _).trans hcT, Obj.data_mapFields hdT _, by simp [h3]⟩
theorem wp_leaving {Q : Unit → Shared → Prop} (hfr : A.frames = some fs) (ff : FF B s.heap fs) (top : ∃ env₀ outer, fs = env₀ :: outer ∧ env.frame = env₀.frame)
    (fly : Fly h s.heap e C) (dom : ∀ b o, h.get? b = some o → ∃ o', s.heap.get? b = some o') (hQ : ∀ h', KpE B h e s.heap h' → FlyT h h' e C → Q () { s with heap := h' }) :
    wpAny M A (leaving env (.ref e)) Q E s := by
  unfold leaving
  refine wpAny_bind (wp_noteFrame hfr ff top fly dom fun h₁ k₁ f₁ => ?_)
  exact wp_setFlight (s := { s with heap := h₁ }) (B := B) f₁ fun h₂ k₂ f₂ => hQ h₂ (k₁.trans k₂) f₂
end
end Mine
end

section
set_option Elab.async false
set_option maxRecDepth 100000
namespace Mine
open PySem
theorem KpE.carry {B h g h' : Heap} {e C : Addr} {S : Addr → Prop} (k : KpE B h e g h') (f : Fly h g e C) (f' : FlyT h h' e C) : Carry S g S h' where
  tup := fun e' hc hd => by
    obtain ⟨_, oe, vs, he, _, _, hde, _⟩ := f
    obtain ⟨sl, q, hs⟩ := k.keep _ _ e' (by rintro rfl; rw [he] at e'; cases e'; rw [hde] at hd; cases hd) (.inl (by rw [hc]; simp))
    rw [hs (.seq hd)] at q; exact q
  list := fun s e' hc hd => by
    refine ⟨s, ?_⟩
    obtain ⟨_, oe, vs, he, _, _, hde, _⟩ := f
    obtain ⟨sl, q, hs⟩ := k.keep _ _ e' (by rintro rfl; rw [he] at e'; cases e'; rw [hde] at hd; cases hd) (.inl (by rw [hc]; simp))
    rw [hs (.seq hd)] at q; exact q
  range := fun e' => by
    obtain ⟨_, oe, vs, he, hce, _⟩ := f
    obtain ⟨sl, q, hs⟩ := k.keep _ _ e' (by rintro rfl; unfold IsRange at e'; rw [he] at e'; cases e'; cases hce) (.inl (by simp))
    have hs := hs (.fields rfl)
    simp only at hs
    subst hs
    exact q
  exc := fun {a} {o} {vs} {C'} e' hc hn hd r => by
    by_cases ha : a = e
    · subst ha
      obtain ⟨_, oe, vs, he, hce, _⟩ := f
      rw [he] at e'; cases e'
      rw [hc] at hce; cases hce
      obtain ⟨_, oe', vs', _, _, _, h1, h2, hn', h3, h4, _⟩ := f'
      exact .exc h1 h2 hn' h3 h4
    · obtain ⟨sl, q, hs⟩ := k.keep _ _ e' ha (.inl (by rw [hc]; simp))
      rw [hs (.fields hd)] at q
      exact .exc q hc hn hd r
  dom := fun a o e' => k.dom a o e'
  obj := fun {a dx C' m} s1 s2 e' n => by
    obtain ⟨_, oe, vs, he, _, _, hde, _⟩ := f
    obtain ⟨sl, q, hs⟩ := k.keep _ _ e' (by rintro rfl; rw [he] at e'; cases e'; cases hde) (.inl (by simp))
    have hs := hs (fun es m q => by cases q)
    simp only at hs
    subst hs
    obtain ⟨o, es, ep, ho, hd, r⟩ := n
    obtain ⟨sl, q'⟩ := k.kd _ _ _ _ ho hd
    exact ⟨s1, s2, q, _, es, ep, q', hd, r⟩
theorem RV.kpE {B h g h' : Heap} {e C : Addr} {S : Addr → Prop} (k : KpE B h e g h') (f : Fly h g e C) (f' : FlyT h h' e C) {v : Value} {d : D} (q : RV S g v d) : RV S h' v d := q.map (k.carry f f')
section
variable {G : Gd} {cx : Cx} {sc : Scope} {ρ ρ₀ : AEnv} {S S₀ : Addr → Prop} {h g h' : Heap} {e C : Addr}
theorem KpE.ns (k : KpE G.B h e g h') (f : Fly h g e C) {a : Addr} {m : Str → Option Value} (hk : ∃ o, h.get? a = some o) (n : g.Ns a m) : h'.Ns a m := by
  obtain ⟨o, es, ep, ho, hd, r⟩ := n
  obtain ⟨_, oe, vs, he, _, _, hde, _⟩ := f
  obtain ⟨sl, q, _⟩ := k.keep a o ho (by rintro rfl; rw [he] at ho; cases ho; rw [hde] at hd; cases hd) (.inr hk)
  exact ⟨_, es, ep, q, hd, r⟩
theorem KpE.cell (k : KpE G.B h e g h') (f : Fly h g e C) {a : Addr} {v : Option Value} (hk : ∃ o, h.get? a = some o) (n : g.IsCell a v) : h'.IsCell a v := by
  obtain ⟨o, ho, hd⟩ := n
  obtain ⟨_, oe, vs, he, _, _, hde, _⟩ := f
  obtain ⟨sl, q, _⟩ := k.keep a o ho (by rintro rfl; rw [he] at ho; cases ho; rw [hde] at hd; cases hd) (.inr hk)
  exact ⟨_, q, hd⟩
theorem Rel.var_kpE (r₀ : Rel G cx sc ρ₀ S₀ h) (k : KpE G.B h e g h') (f : Fly h g e C) {x : Str} {v : Value} (q : Var cx.env g x v) : Var cx.env h' x v := by
  rcases q with ⟨a, m, b, c⟩ | ⟨a, c, b, d⟩
  · exact .inl ⟨a, m, k.ns f (let ⟨_, o, _, _, q, _⟩ := r₀.ns; ⟨o, q⟩) b, c⟩
  · exact .inr ⟨a, c, b, k.cell f (let ⟨_, o, q, _⟩ := r₀.cells x c b; ⟨o, q⟩) d⟩
theorem Rel.var_back (r₀ : Rel G cx sc ρ₀ S₀ h) (r : Rel G cx sc ρ S g) (k : KpE G.B h e g h') (f : Fly h g e C) {x : Str} {v : Value} (q : Var cx.env h' x v) : Var cx.env g x v := by
  rcases q with ⟨a, m, b, c⟩ | ⟨a, c, b, d⟩
  · obtain ⟨m₀, n₀⟩ := r.ns
    exact .inl ⟨a, m₀, n₀, by rw [(k.ns f (let ⟨_, o, _, _, q, _⟩ := r₀.ns; ⟨o, q⟩) n₀).agree b x]; exact c⟩
  · obtain ⟨v₀, i₀⟩ := r.cells x c b
    exact .inr ⟨a, c, b, by rw [IsCell.inj d (k.cell f (let ⟨_, o, q, _⟩ := r₀.cells x c b; ⟨o, q⟩) i₀)]; exact i₀⟩
theorem Rel.kpE (r₀ : Rel G cx sc ρ₀ S₀ h) (r : Rel G cx sc ρ S g) (k : KpE G.B h e g h') (f : Fly h g e C) (f' : FlyT h h' e C) : Rel G cx sc ρ S h' where
  base := fun b o q => k.base b o q (r.base b o q) (by rintro rfl; have := r₀.base _ _ q; rw [f.1] at this; cases this) ⟨o, r₀.base b o q⟩
  keep := fun b o q => by
    obtain ⟨sl, q₁, k₁⟩ := r.keep b o q
    obtain ⟨o₀, q₀⟩ := r₀.keep.dom q
    obtain ⟨sl', q₂, k₂⟩ := k.keep b _ q₁ (by rintro rfl; rw [f.1] at q₀; cases q₀) (.inr ⟨o₀, q₀⟩)
    exact ⟨sl', q₂, fun hn => (k₂ hn).trans (k₁ hn)⟩
  ff := fun env he => by
    obtain ⟨a, L, o, b, c, d, es, n, q⟩ := r.ff env he
    obtain ⟨_, L', o₀, b', _, d', _⟩ := r₀.ff env he
    rw [b] at b'; cases b'
    obtain ⟨sl', q₂, k₂⟩ := k.keep L _ d (by rintro rfl; rw [f.1] at d'; cases d') (.inr ⟨o₀, d'⟩)
    exact ⟨a, L, _, b, c, q₂, es, n, q⟩
  ns := let ⟨m, n⟩ := r.ns; ⟨m, k.ns f (let ⟨_, o, _, _, q, _⟩ := r₀.ns; ⟨o, q⟩) n⟩
  cells := fun x c q => let ⟨v, n⟩ := r.cells x c q; ⟨v, k.cell f (let ⟨_, o, q', _⟩ := r₀.cells x c q; ⟨o, q'⟩) n⟩
  sdom := fun b q => let ⟨o, e⟩ := r.sdom b q; k.dom b o e
  sok := r.sok
  sloc := r.sloc
  scell := r.scell
  live := fun x a hd q => let ⟨o, e⟩ := r.live x a hd (r₀.var_back r k f q); k.dom a o e
  clean := r.clean
  hok := fun v q => let ⟨C, e⟩ := r.hok v q; ⟨C, RV.kpE k f f' e⟩
  vars := fun i x t hx ht => by
    obtain ⟨v, hv, tv⟩ := r.vars i x t hx ht
    refine ⟨v, r₀.var_kpE k f hv, ?_⟩
    cases t with
    | sh d => exact RV.kpE k f f' tv
    | ow m d =>
      obtain ⟨a, rfl, ns, ow, n⟩ := tv
      refine ⟨a, rfl, ns, ?_, n⟩
      rcases ow.cases with ow | ⟨ks, ds, rfl, ow⟩
      · obtain ⟨o', e'', hcl, vs', n', hd'⟩ := ow.cls
        refine (ow.map (k.carry f f') fun o q hn => ?_).v
        rw [e''] at q; cases q
        obtain ⟨_, oe, ws, he, _, _, hde, _⟩ := f
        obtain ⟨sl, q', hs⟩ := k.keep _ _ e'' (by rintro rfl; rw [he] at e''; cases e''; rw [hde] at hd'; cases hd') (.inl (by rw [hcl]; simp))
        rw [hs hn] at q'; exact q'
      · refine DictAt.map (k.carry f f') (fun o q => ?_) ow
        obtain ⟨o', es, nn, _, e'', _, hd', _⟩ := ow
        rw [e''] at q; cases q
        exact k.kd _ _ _ _ e'' hd'
  inj := fun i j x y m m' d d' v hx hy hi hj a b => r.inj i j x y m m' d d' v hx hy hi hj (r₀.var_back r k f a) (r₀.var_back r k f b)
  dok := r.dok.back fun _ _ q => r₀.var_back r k f q
theorem Ext.kpE (x : Ext S₀ h S g) (k : KpE G.B h e g h') (f : Fly h g e C) : Ext S₀ h S h' :=
  ⟨x.sub, fun b o eb q => by
    obtain ⟨sl, e₁, k₁⟩ := x.keep b o eb q
    obtain ⟨sl', e₂, k₂⟩ := k.keep b _ e₁ (by rintro rfl; rw [f.1] at eb; cases eb) (.inr ⟨o, eb⟩)
    exact ⟨sl', e₂, fun hn => (k₂ hn).trans (k₁ hn)⟩, fun b o eb => let ⟨o', e'⟩ := x.dom b o eb; k.dom b o' e'⟩
end
structure FnCx (G : Gd) (cx : Cx) : Prop where
  bh : G.B.StaysIn cx.h₀
  lnew : cx.h₀.get? cx.env.locals = none
  cap : ∀ x y c, cx.env.cells.lookup x = some c → cx.env.cells.lookup y = some c → cx.h₀.get? c = none → x = y
  loc : ∀ x c, cx.env.cells.lookup x = some c → c ≠ cx.env.locals
section
variable {G : Gd} {cx : Cx} {sc : Scope} {ρ : AEnv} {S : Addr → Prop} {h h' : Heap}
theorem ext_but {loc : Addr} {oL : Obj} (e : h.get? loc = some oL) (hi : ¬ Imm oL) (hs : ¬ S loc) (k : Heap.SameBut loc h h') (e' : ∃ o, h'.get? loc = some o) : Ext S h S h' :=
  ⟨fun _ q => q, fun b o eb q => ⟨o.slots, (k.2 b (by rintro rfl; rw [e] at eb; cases eb; exact q.elim hs hi)).trans eb, fun _ => rfl⟩, fun b o eb => by
    by_cases hb : b = loc
    · subst hb; exact e'
    · exact ⟨o, (k.2 b hb).trans eb⟩⟩
theorem Rel.store {loc : Addr} {oL : Obj} {i : Nat} {x : Str} {v : Value} {t : T} (r : Rel G cx sc ρ S h) (bh : G.B.StaysIn cx.h₀) (nd : (varNames sc).Nodup) (hx : (varNames sc)[i]? = some x)
    (e : h.get? loc = some oL) (hi : ¬ Imm oL) (hq : ∀ vs n, oL.data ≠ .seq vs n) (hs : ¬ S loc) (hn : cx.h₀.get? loc = none) (hdl : loc = cx.env.locals ∨ ∀ es n, oL.data ≠ .dict es n) (k : Heap.SameBut loc h h')
    (e' : ∃ o, h'.get? loc = some o ∧ ((∃ es n, oL.data = .dict es n) → ∃ es n, o.data = .dict es n)) (ns : ∃ m, h'.Ns cx.env.locals m) (cl : ∀ y c, cx.env.cells.lookup y = some c → ∃ v, h'.IsCell c v)
    (hv : Var cx.env h' x v) (hb : ∀ y w, y ≠ x → Var cx.env h y w → Var cx.env h' y w) (hf : ∀ y w, y ≠ x → Var cx.env h' y w → Var cx.env h y w) (hcl : isDirty x = false ∨ ∃ d, t = .sh d) (tv : TSt cx S h v t) :
    Rel G cx sc (ρ.set i (some t)) S h' ∧ Ext S h S h' := by
  obtain ⟨oL', eL', dL'⟩ := e'
  have x' : Ext S h S h' := ext_but e hi hs k ⟨_, eL'⟩
  have ow' : ∀ {a d}, ((∃ ks ds, d = .dict ks ds) → a ≠ cx.env.locals) → OwnV S h a d → OwnV S h' a d := fun {a d} hal q => by
    have hne : a ≠ loc := by
      rintro rfl
      rcases q.cases with q | ⟨ks, ds, rfl, q⟩
      · obtain ⟨o', ho', _, vs, n, hd⟩ := q.cls
        rw [e] at ho'; cases ho'; exact hq vs n hd
      · rcases hdl with hdl | hdl
        · exact hal ⟨_, _, rfl⟩ hdl
        · obtain ⟨o', es, n, _, ho', _, hd, _⟩ := q
          rw [e] at ho'; cases ho'; exact hdl es n hd
    exact q.ext x' fun o eo => ⟨o.slots, (k.2 a hne).trans eo, fun _ => rfl⟩
  have lt : i < (varNames sc).length := (List.getElem?_eq_some_iff.mp hx).1
  have neName : ∀ (j : Nat) (y : Str), (varNames sc)[j]? = some y → j ≠ i → y ≠ x := fun j y hy hj q => by
    subst q
    obtain ⟨h1, e1⟩ := List.getElem?_eq_some_iff.mp hx
    obtain ⟨h2, e2⟩ := List.getElem?_eq_some_iff.mp hy
    exact hj ((List.getElem_inj nd).mp (e2.trans e1.symm))
  have live : ∀ a, v = .ref a → ∃ o, h.get? a = some o := fun a ea => by
    cases t with
    | sh d => exact RV.live tv a ea
    | ow m d => obtain ⟨b, rfl, _, ow, _⟩ := tv; cases ea; obtain ⟨o, ho, _⟩ := ow.live; exact ⟨o, ho⟩
  refine ⟨⟨fun b o q => (k.2 b (by rintro rfl; rw [bh _ _ q] at hn; cases hn)).trans (r.base b o q), fun b o q => ?_, fun env he => ?_, ns, cl, fun b q => let ⟨o, eo⟩ := r.sdom b q; x'.dom b o eo, r.sok, r.sloc, r.scell, fun y a hdy q => ?_, fun j y m d hy hj => ?_, fun v q => let ⟨C, e⟩ := r.hok v q; ⟨C, e.ext x'⟩, fun j y u hy hu => ?_, fun j l y z m m' d d' u hy hz hj hl a b => ?_, fun j y m ks ds hy hj hvy => ?_⟩, x'⟩
  rotate_right
  · by_cases hji : j = i
    · subst hji
      rw [hx] at hy; cases hy
      have hjl : j < ρ.length := by
        by_cases q : j < ρ.length
        · exact q
        · rw [List.getElem?_eq_none (by rw [List.length_set]; omega)] at hj; cases hj
      rw [List.getElem?_set_self hjl] at hj; cases hj
      obtain ⟨a', rfl, _, _, _, _, hal⟩ := tv
      have := Var.inj hv hvy
      injection this with this
      exact hal ⟨_, _, rfl⟩ this
    · rw [List.getElem?_set_ne (Ne.symm hji)] at hj
      exact r.dok j y m ks ds hy hj (hf y _ (neName j y hy hji) hvy)
  · obtain ⟨sl, q₁, k₁⟩ := r.keep b o q
    exact ⟨sl, (k.2 b (by rintro rfl; rw [q] at hn; cases hn)).trans q₁, k₁⟩
  · obtain ⟨a, L, o, b, c, d, es, n, q⟩ := r.ff env he
    by_cases hL : L = loc
    · subst hL
      rw [e] at d; cases d
      obtain ⟨es', n', q'⟩ := dL' ⟨es, n, q⟩
      exact ⟨a, L, _, b, c, eL', es', n', q'⟩
    · exact ⟨a, L, o, b, c, (k.2 L hL).trans d, es, n, q⟩
  · by_cases hy : y = x
    · subst hy
      obtain ⟨o, eo⟩ := live a (Var.inj hv q)
      exact x'.dom a o eo
    · obtain ⟨o, eo⟩ := r.live y a hdy (hf y _ hy q)
      exact x'.dom a o eo
  · by_cases hji : j = i
    · subst hji
      rw [hx] at hy; cases hy
      rcases hcl with hcl | ⟨d', rfl⟩
      · exact hcl
      · have hjl : j < ρ.length := by
          by_cases q : j < ρ.length
          · exact q
          · rw [List.getElem?_eq_none (by rw [List.length_set]; omega)] at hj; cases hj
        rw [List.getElem?_set_self hjl] at hj; cases hj
    · rw [List.getElem?_set_ne (Ne.symm hji)] at hj
      exact r.clean j y m d hy hj
  · by_cases hj : j = i
    · subst hj
      rw [hx] at hy; cases hy
      by_cases hl : j < ρ.length
      · rw [List.getElem?_set_self hl] at hu; cases hu
        refine ⟨v, hv, ?_⟩
        cases t with
        | sh d => exact RV.ext x' tv
        | ow m d => obtain ⟨a, rfl, n1, ow, n2, _, hal⟩ := tv; exact ⟨a, rfl, n1, ow' hal ow, fun _ => n2⟩
      · rw [List.getElem?_eq_none (by rw [List.length_set]; omega)] at hu; cases hu
    · rw [List.getElem?_set_ne (Ne.symm hj)] at hu
      obtain ⟨w, hw, tw⟩ := r.vars j y u hy hu
      refine ⟨w, hb y w (neName j y hy hj) hw, ?_⟩
      cases u with
      | sh d => exact RV.ext x' tw
      | ow m d =>
        obtain ⟨a, rfl, n1, ow, n2⟩ := tw
        refine ⟨a, rfl, n1, ow' ?_ ow, n2⟩
        rintro ⟨ks, ds, rfl⟩ rfl
        exact r.dok j y m ks ds hy hu hw
  · by_cases hji : j = i <;> by_cases hli : l = i
    · rw [hji, hli]
    · exfalso
      subst hji
      rw [hx] at hy; cases hy
      rw [List.getElem?_set_ne (Ne.symm hli)] at hl
      have hjl : j < ρ.length := by
        by_cases q : j < ρ.length
        · exact q
        · rw [List.getElem?_eq_none (by rw [List.length_set]; omega)] at hj; cases hj
      rw [List.getElem?_set_self hjl] at hj; cases hj
      obtain ⟨a', rfl, _, _, _, nv, _⟩ := tv
      rw [Var.inj a hv] at b
      exact nv z (r.clean l z m' d' hz hl) (hf z _ (neName l z hz hli) b)
    · exfalso
      subst hli
      rw [hx] at hz; cases hz
      rw [List.getElem?_set_ne (Ne.symm hji)] at hj
      have hjl : l < ρ.length := by
        by_cases q : l < ρ.length
        · exact q
        · rw [List.getElem?_eq_none (by rw [List.length_set]; omega)] at hl; cases hl
      rw [List.getElem?_set_self hjl] at hl; cases hl
      obtain ⟨a', rfl, _, _, _, nv, _⟩ := tv
      rw [Var.inj b hv] at a
      exact nv y (r.clean j y m d hy hj) (hf y _ (neName j y hy hji) a)
    · rw [List.getElem?_set_ne (Ne.symm hji)] at hj
      rw [List.getElem?_set_ne (Ne.symm hli)] at hl
      exact r.inj j l y z m m' d d' u hy hz hj hl (hf y _ (neName j y hy hji) a) (hf z _ (neName l z hz hli) b)
theorem does_store {i : Nat} {x : Str} {v : Value} {t : T} {s : Shared} (ok : CxOk G cx sc 0) (fn : FnCx G cx) (r : Rel G cx sc ρ S s.heap) (hx : (varNames sc)[i]? = some x) (hk : sc.names.lookup x = some .local ∨ (sc.names.lookup x = some .cell ∧ ∃ c, cx.env.cells.lookup x = some c ∧ cx.h₀.get? c = none)) (hcl : isDirty x = false ∨ ∃ d, t = .sh d) (tv : TSt cx S s.heap v t) :
    Does G cx sc false (storeName cx.env x v) S s (fun _ _ _ (_ : Unit) => True) (.ok () (ρ.set i (some t))) := by
  intro Q E out
  have hkf : cx.env.scope.kind = .function := by rw [ok.hsc]; exact ok.hk
  have kd : ∀ y, cx.env.kindOf y = sc.names.lookup y := fun y => by unfold Env.kindOf; rw [ok.hsc]
  rcases hk with hk | ⟨hk, hc⟩
  · obtain ⟨m, hm⟩ := r.ns
    have hm0 := hm
    obtain ⟨oL, es, ep, eL, dL, _⟩ := hm0
    refine wpAny_storeName_local ((kd x).trans hk) hm (fun h' n' k => ?_) (by rw [hkf]; rfl)
    have n'' := n'
    obtain ⟨oL', es', ep', eL', dL', _⟩ := n''
    have cellsame : ∀ y c, cx.env.cells.lookup y = some c → ∀ w, s.heap.IsCell c w → h'.IsCell c w := fun y c q w n => n.sameBut k (fn.loc y c q)
    have vx : Var cx.env h' x v := .inl ⟨(kd x).trans hk, _, n', by simp⟩
    obtain ⟨r', x'⟩ := r.store (loc := cx.env.locals) (i := i) (x := x) (v := v) (t := t) fn.bh ok.nodup hx eL (by rintro (⟨_, vs, n, q⟩ | ⟨vs, q⟩) <;> (rw [dL] at q; cases q)) (fun vs n q => by rw [dL] at q; cases q) r.sloc fn.lnew (.inl rfl) k
      ⟨oL', eL', fun _ => ⟨es', ep', dL'⟩⟩ ⟨_, n'⟩ (fun y c q => let ⟨w, n⟩ := r.cells y c q; ⟨w, cellsame y c q w n⟩) vx
      (fun y w hy q => by
        rcases q with ⟨a, m₁, b, c⟩ | ⟨a, c, b, d⟩
        · refine .inl ⟨a, _, n', ?_⟩
          rw [if_neg hy, ← b.agree hm y]; exact c
        · exact .inr ⟨a, c, b, cellsame y c b _ d⟩)
      (fun y w hy q => by
        rcases q with ⟨a, m₁, b, c⟩ | ⟨a, c, b, d⟩
        · refine .inl ⟨a, m, hm, ?_⟩
          have := b.agree n' y
          rw [if_neg hy] at this
          rw [← this]; exact c
        · obtain ⟨w₀, n₀⟩ := r.cells y c b
          exact .inr ⟨a, c, b, by rw [IsCell.inj d (cellsame y c b _ n₀)]; exact n₀⟩) hcl tv
    exact out () h' _ S r' trivial x' fun q => by cases q
  · obtain ⟨c, hc, hcn⟩ := hc
    obtain ⟨w₀, n₀⟩ := r.cells x c hc
    have n₁ := n₀
    obtain ⟨oL, eL, dL⟩ := n₁
    refine wpAny_storeName_cell hkf ((kd x).trans hk) hc n₀ (fun h' n' k => ?_)
    have n'' := n'
    obtain ⟨oL', eL', dL'⟩ := n''
    have hcloc : c ≠ cx.env.locals := fn.loc x c hc
    have nsame : ∀ m, s.heap.Ns cx.env.locals m → h'.Ns cx.env.locals m := fun m n => n.sameBut k (Ne.symm hcloc)
    have cellsame : ∀ y c', y ≠ x → cx.env.cells.lookup y = some c' → ∀ w, s.heap.IsCell c' w → h'.IsCell c' w := fun y c' hy q w n => n.sameBut k (by rintro rfl; exact hy (fn.cap y x c' q hc hcn))
    obtain ⟨r', x'⟩ := r.store (loc := c) (i := i) (x := x) (v := v) (t := t) fn.bh ok.nodup hx eL (by rintro (⟨_, vs, n, q⟩ | ⟨vs, q⟩) <;> (rw [dL] at q; cases q)) (fun vs n q => by rw [dL] at q; cases q) (r.scell x c hc) hcn (.inr fun es n q => by rw [dL] at q; cases q) k
      ⟨oL', eL', fun q => by obtain ⟨_, _, q⟩ := q; rw [dL] at q; cases q⟩ (let ⟨m, n⟩ := r.ns; ⟨m, nsame m n⟩)
      (fun y c' q => by
        by_cases hy : y = x
        · subst hy; rw [hc] at q; cases q; exact ⟨_, n'⟩
        · obtain ⟨w, n⟩ := r.cells y c' q; exact ⟨w, cellsame y c' hy q w n⟩) (.inr ⟨.inl ((kd x).trans hk), c, hc, n'⟩)
      (fun y w hy q => by
        rcases q with ⟨a, m₁, b, c'⟩ | ⟨a, c', b, d⟩
        · exact .inl ⟨a, m₁, nsame m₁ b, c'⟩
        · exact .inr ⟨a, c', b, cellsame y c' hy b _ d⟩)
      (fun y w hy q => by
        rcases q with ⟨a, m₁, b, c'⟩ | ⟨a, c', b, d⟩
        · obtain ⟨m₀, n₀⟩ := r.ns
          refine .inl ⟨a, m₀, n₀, ?_⟩
          rw [(nsame m₀ n₀).agree b y]; exact c'
        · obtain ⟨w₀, n₀⟩ := r.cells y c' b
          exact .inr ⟨a, c', b, by rw [IsCell.inj d (cellsame y c' hy b _ n₀)]; exact n₀⟩) hcl tv
    exact out () h' s.toks S r' trivial x' fun q => by cases q
end
end Mine
end

section
set_option Elab.async false
set_option maxRecDepth 100000
namespace Mine
open PySem
inductive Fl where
  | next
  | brk
  | cont
  | ret (t : T)
noncomputable def RTmp (cx : Cx) (S : Addr → Prop) (h : Heap) (v : Value) : T → Prop
  | .sh d => RV S h v d
  | .ow _ d => ∃ a, v = .ref a ∧ ¬ S a ∧ OwnAt S h a d ∧ cx.h₀.get? a = none
theorem TTmp.ret {cx : Cx} {S : Addr → Prop} {h : Heap} {v : Value} {t : T} (q : TTmp cx S h v t) : RTmp cx S h v t := by
  cases t with
  | sh d => exact q
  | ow m d => obtain ⟨a, e, n, o, k, _⟩ := q; exact ⟨a, e, n, o, k⟩
noncomputable def FlJ (cx : Cx) (S : Addr → Prop) (h : Heap) : Flow → Fl → Prop
  | .next, .next => True
  | .brk, .brk => True
  | .cont, .cont => True
  | .ret v, .ret t => RTmp cx S h v t
  | _, _ => False
structure FnOk (G : Gd) (cx : Cx) : Prop extends FnCx G cx where
  has : ∀ x, cx.env.kindOf x = some .cell → ∃ c, cx.env.cells.lookup x = some c ∧ cx.h₀.get? c = none
noncomputable def SimS (G : Gd) (k : Nat) (sc : Scope) (st : Stmt) (f : AEnv → Res Fl) : Prop :=
  ∀ cx, CxOk G cx sc k → FnOk G cx → ∀ ρ S s, Rel G cx sc ρ S s.heap → Does G cx sc false (exec st cx.env) S s (fun S' h' a b => FlJ cx S' h' a b) (f ρ)
noncomputable def SimSs (G : Gd) (k : Nat) (sc : Scope) (sts : List Stmt) (f : AEnv → Res Fl) : Prop :=
  ∀ cx, CxOk G cx sc k → FnOk G cx → ∀ ρ S s, Rel G cx sc ρ S s.heap → Does G cx sc false (execs sts cx.env) S s (fun S' h' a b => FlJ cx S' h' a b) (f ρ)
noncomputable def sNil : AEnv → Res Fl := fun ρ => .ok .next ρ
noncomputable def sSeq (f g : AEnv → Res Fl) : AEnv → Res Fl := fun ρ => (f ρ).bind fun fl ρ₁ => match fl with
  | .next => g ρ₁
  | fl => .ok fl ρ₁
noncomputable def sIf (t : AEnv → Res Bool) (a b : AEnv → Res Fl) : AEnv → Res Fl := fun ρ => (t ρ).bind fun c ρ₁ => if c then a ρ₁ else b ρ₁
noncomputable def sRet (f : AEnv → Res T) : AEnv → Res Fl := fun ρ => (f ρ).bind fun t ρ₁ => .ok (.ret t) ρ₁
noncomputable def sRetVar (i : Nat) : AEnv → Res Fl := fun ρ => match ρ[i]? with
  | some (some (.sh d)) => .ok (.ret (.sh d)) ρ
  | some (some (.ow true (.list ds))) => .ok (.ret (.ow true (.list ds))) ρ
  | _ => .stuck
noncomputable def sExpr (f : AEnv → Res Bv) : AEnv → Res Fl := fun ρ => (f ρ).bind fun _ ρ₁ => .ok .next ρ₁
noncomputable def sAssign (i : Nat) (f : AEnv → Res T) : AEnv → Res Fl := fun ρ => (f ρ).bind fun t ρ₁ => .ok .next (ρ₁.set i (some t))
section
variable {G : Gd} {k : Nat} {sc : Scope}
theorem simSs_nil : SimSs G k sc [] sNil := fun _ _ _ _ _ _ r => Does.pure r trivial
theorem simSs_cons {st : Stmt} {rest : List Stmt} {f g : AEnv → Res Fl} (h1 : SimS G k sc st f) (h2 : SimSs G k sc rest g) : SimSs G k sc (st :: rest) (sSeq f g) := by
  intro cx ok fn ρ S s r
  rw [execs_cons]
  refine Does.bind (h1 cx ok fn ρ S s r) fun fl ρ₁ a h₁ t₁ S₁ _ r₁ j x₁ v₁ => ?_
  cases a <;> cases fl <;> first | exact j.elim | exact h2 cx ok fn ρ₁ S₁ _ r₁ | exact Does.pure r₁ j
theorem simS_If {test : Expr} {body orelse : List Stmt} {pos : Pos} {t : AEnv → Res Bool} {a b : AEnv → Res Fl} (ht : SimT G k sc test t) (ha : SimSs G k sc body a) (hb : SimSs G k sc orelse b) : SimS G k sc (.If test body orelse pos) (sIf t a b) := by
  intro cx ok fn ρ S s r
  rw [exec_If]
  refine Does.standAt (Does.bind (ht cx ok ρ S s r).loose fun c ρ₁ a' h₁ t₁ S₁ _ r₁ j x₁ v₁ => ?_)
  subst j
  cases a'
  · exact hb cx ok fn ρ₁ S₁ _ r₁
  · exact ha cx ok fn ρ₁ S₁ _ r₁
theorem simS_Return {e : Expr} {pos : Pos} {f : AEnv → Res T} (h : Sim G k sc e f) : SimS G k sc (.Return (some e) pos) (sRet f) := by
  intro cx ok fn ρ S s r
  rw [exec_Return_some]
  refine Does.standAt (Does.bind (h cx ok ρ S s r).loose fun t ρ₁ v h₁ t₁ S₁ _ r₁ j x₁ v₁ => ?_)
  exact Does.pure r₁ j.ret
theorem simS_ReturnVar {x : Str} {p pos : Pos} {i : Nat} (hx : (varNames sc)[i]? = some x) (hd : (x == ("__debug__" : Str)) = false) (hn : (x == ("__classdict__" : Str)) = false) : SimS G k sc (.Return (some (.Name x p)) pos) (sRetVar i) := by
  intro cx ok fn ρ S s r
  rw [exec_Return_some]
  refine Does.standAt ?_
  intro Q E out
  unfold sRetVar at out
  split at out
  · rename_i d ht
    obtain ⟨v, hv, tv⟩ := r.vars i x _ hx ht
    exact wpAny_bind (wpAny_Name (sim_load (ok.mono (Nat.zero_le _)) hv hn rfl (wpAny_pure (out (.ret v) s.heap s.toks S r tv (Ext.refl ..) fun _ => VarSame.refl _ _))) hd)
  · rename_i d ht
    obtain ⟨v, hv, a, rfl, n1, ow, n2⟩ := r.vars i x _ hx ht
    exact wpAny_bind (wpAny_Name (sim_load (ok.mono (Nat.zero_le _)) hv hn rfl (wpAny_pure (out (.ret (.ref a)) s.heap s.toks S r ⟨a, rfl, n1, ow, n2 rfl⟩ (Ext.refl ..) fun _ => VarSame.refl _ _))) hd)
  · exact out.elim
theorem simS_Expr {e : Expr} {pos : Pos} {f : AEnv → Res Bv} (h : SimB G k sc e f) (hs : ∀ env : Env, swapsWith e none pos.line env = pure false) : SimS G k sc (.Expr e pos) (sExpr f) := by
  intro cx ok fn ρ S s r Q E out
  refine wpAny_Expr_any ?_ (by unfold interactive; rw [ok.hsc, ok.hk]; rfl) (hs cx.env)
  refine h cx ok ρ S s r _ _ ?_
  unfold sExpr at out
  cases hf : f ρ with
  | stuck => rw [hf] at out; exact out
  | exc C ρ' => rw [hf] at out; exact out
  | ok t ρ' => rw [hf] at out; intro v h' tk S' rel j x vs; exact out .next h' tk S' rel trivial x fun q => by cases q
theorem does_bindName {cx : Cx} {ρ : AEnv} {S : Addr → Prop} {i : Nat} {x : Str} {v : Value} {t : T} {s : Shared} (ok : CxOk G cx sc 0) (fn : FnOk G cx) (r : Rel G cx sc ρ S s.heap) (hx : (varNames sc)[i]? = some x) (hk : sc.names.lookup x = some .local ∨ sc.names.lookup x = some .cell) (hcl : isDirty x = false ∨ ∃ d, t = .sh d) (tv : TSt cx S s.heap v t) :
    Does G cx sc false (bindName cx.env x v) S s (fun _ _ _ (_ : Unit) => True) (.ok () (ρ.set i (some t))) := by
  refine (does_store ok fn.toFnCx r hx (hk.imp id fun q => ⟨q, fn.has x (by unfold Env.kindOf; rw [ok.hsc]; exact q)⟩) hcl tv).wp fun Q E h => wpAny_bindName h
theorem simS_Assign {x : Str} {p pos : Pos} {value : Expr} {i : Nat} {f : AEnv → Res T} (h : Sim G k sc value f) (hx : (varNames sc)[i]? = some x) (hk : sc.names.lookup x = some .local ∨ sc.names.lookup x = some .cell)
    (hcl : isDirty x = false) (hs : ∀ env : Env, env.scope = sc → swapsWith value (some (.Name x p)) pos.line env = pure false) : SimS G k sc (.Assign [.Name x p] value pos) (sAssign i f) := by
  intro cx ok fn ρ S s r
  rw [exec_Assign_Name _ _ _ _ _ (hs cx.env ok.hsc)]
  refine Does.standAt (Does.bind (h cx ok ρ S s r).loose fun t ρ₁ v h₁ t₁ S₁ _ r₁ j x₁ v₁ => ?_)
  refine Does.standAt ?_
  intro Q E out
  refine wpAny_bind (does_bindName (s := { s with heap := h₁, toks := t₁ }) (ok.mono (Nat.zero_le _)) fn r₁ hx hk (.inl hcl) j.st _ _ ?_)
  intro _ h₂ t₂ S₂ r₂ _ x₂ v₂
  exact wpAny_pure (out .next h₂ t₂ S₂ r₂ trivial x₂ v₂)
end
noncomputable def whileN (t : AEnv → Res Bool) (b : AEnv → Res Fl) : Nat → AEnv → Res Fl
  | 0, _ => .stuck
  | n + 1, ρ => (t ρ).bind fun c ρ₁ => if c then (b ρ₁).bind fun fl ρ₂ => (match fl with
      | .next => whileN t b n ρ₂
      | .cont => whileN t b n ρ₂
      | .brk => .ok .next ρ₂
      | .ret t => .ok (.ret t) ρ₂) else .ok .next ρ₁
noncomputable def sWhile (n : Nat) (t : AEnv → Res Bool) (b : AEnv → Res Fl) : AEnv → Res Fl := whileN t b n
section
variable {G : Gd} {k : Nat} {sc : Scope} {cx : Cx} {ρ ρ₀ : AEnv} {S S₀ : Addr → Prop} {s₀ s : Shared}
theorem noted_out {C e : Addr} {E : Value → Shared → Prop} (ok : CxOk G cx sc k) (r₀ : Rel G cx sc ρ₀ S₀ s₀.heap) (r : Rel G cx sc ρ S s.heap) (x : Ext S₀ s₀.heap S s.heap) (f : Fly s₀.heap s.heap e C) (hs : ∃ h tk, s = { s₀ with heap := h, toks := tk })
    (hE : ∀ h' tk, Rel G cx sc ρ S h' → FlyT s₀.heap h' e C → Ext S₀ s₀.heap S h' → E (.ref e) { s₀ with heap := h', toks := tk }) : notedBy G.M cx.A cx.env E (.ref e) s := by
  obtain ⟨h, tk, rfl⟩ := hs
  unfold notedBy
  exact wp_noteFrame (B := G.B) ok.fr r.ff ok.top f x.dom fun h' k' f' => hE h' tk (r₀.kpE r k' f f') f' (x.kpE k' f)
theorem came_out {C e : Addr} {E : Value → Shared → Prop} (r₀ : Rel G cx sc ρ₀ S₀ s₀.heap) (r : Rel G cx sc ρ S s.heap) (x : Ext S₀ s₀.heap S s.heap) (f : FlyT s₀.heap s.heap e C) (hs : ∃ h tk, s = { s₀ with heap := h, toks := tk })
    (hE : ∀ h' tk, Rel G cx sc ρ S h' → FlyT s₀.heap h' e C → Ext S₀ s₀.heap S h' → E (.ref e) { s₀ with heap := h', toks := tk }) : cameBackBy G.M cx.A cx.env E (.ref e) s := by
  obtain ⟨h, tk, rfl⟩ := hs
  unfold cameBackBy
  have f0 := f
  obtain ⟨_, oe, vs, T, oT, ts, he, _, _, hd, _, h1, _⟩ := f0
  refine wpAny_bind (wpAny_field he hd h1 ?_)
  rw [if_neg (by simp)]
  exact wp_setFlight (B := G.B) f fun h' k' f' => hE h' tk (r₀.kpE r k' f.fly f') f' (x.kpE k' f.fly)
theorem simS_While {test : Expr} {body : List Stmt} {pos : Pos} {n : Nat} {t : AEnv → Res Bool} {b : AEnv → Res Fl} (ht : SimT G k sc test t) (hb : SimSs G k sc body b) : SimS G k sc (.While test body [] pos) (sWhile n t b) := by
  intro cx ok fn ρ S s r Q E out
  refine wpAny_While ?_
  obtain ⟨Inv, hI⟩ : ∃ Inv : Nat → Shared → Prop, ∀ m s', Inv m s' ↔ ∃ ρ' S', Rel G cx sc ρ' S' s'.heap ∧ Ext S s.heap S' s'.heap ∧ (∃ h tk, s' = { s with heap := h, toks := tk }) ∧ Out G cx sc false S s (fun S' h' a b => FlJ cx S' h' a b) Q E (whileN t b m ρ') := ⟨_, fun _ _ => Iff.rfl⟩
  refine codeAny_whileLoop Inv ?_ n ((hI _ _).mpr ⟨ρ, S, r, Ext.refl .., ⟨s.heap, s.toks, rfl⟩, out⟩)
  intro m s' hinv
  obtain ⟨ρ', S', r', x', hs', out'⟩ := (hI _ _).mp hinv
  obtain ⟨h', tk', rfl⟩ := hs'
  cases m with
  | zero => exact out'.elim
  | succ m =>
    simp only [whileN] at out'
    have step := (ht cx ok ρ' S' { s with heap := h', toks := tk' } r').loose (same := false)
    refine step _ _ ?_
    cases h1 : t ρ' with
    | stuck => rw [h1] at out'; exact out'.elim
    | exc C ρ₁ =>
      rw [h1] at out'
      intro e h₁ t₁ S₁ r₁ f₁ x₁
      refine noted_out ok r r₁ (x'.trans x₁) (f₁.back x') ⟨h₁, t₁, rfl⟩ fun h₂ t₂ r₂ f₂ x₂ => ?_
      exact came_out r r₂ x₂ f₂ ⟨h₂, t₂, rfl⟩ fun h₃ t₃ r₃ f₃ x₃ => out' e h₃ t₃ S₁ r₃ f₃.fly x₃
    | ok c ρ₁ =>
      rw [h1] at out'
      intro a h₁ t₁ S₁ r₁ j₁ x₁ _
      subst j₁
      cases a with
      | false =>
        simp only [Bool.false_eq_true, if_false]
        exact wpAny_pure (out' .next h₁ t₁ S₁ r₁ trivial (x'.trans x₁) fun q => by cases q)
      | true =>
        simp only [if_true]
        refine hb cx ok fn ρ₁ S₁ { s with heap := h₁, toks := t₁ } r₁ _ _ ?_
        simp only [Res.bind, if_true] at out'
        cases h2 : b ρ₁ with
        | stuck => rw [h2] at out'; exact out'.elim
        | exc C ρ₂ =>
          rw [h2] at out'
          intro e h₂ t₂ S₂ r₂ f₂ x₂
          refine noted_out ok r r₂ ((x'.trans x₁).trans x₂) (f₂.back (x'.trans x₁)) ⟨h₂, t₂, rfl⟩ fun h₃ t₃ r₃ f₃ x₃ => ?_
          exact came_out r r₃ x₃ f₃ ⟨h₃, t₃, rfl⟩ fun h₄ t₄ r₄ f₄ x₄ => out' e h₄ t₄ S₂ r₄ f₄.fly x₄
        | ok fl ρ₂ =>
          rw [h2] at out'
          intro a h₂ t₂ S₂ r₂ j₂ x₂ _
          have xx := (x'.trans x₁).trans x₂
          cases a <;> cases fl <;> first
            | exact j₂.elim
            | exact ⟨m, Nat.lt_succ_self _, (hI _ _).mpr ⟨ρ₂, S₂, r₂, xx, ⟨h₂, t₂, rfl⟩, out'⟩⟩
            | exact out' _ h₂ t₂ S₂ r₂ j₂ xx fun q => by cases q
end
end Mine
end

section
set_option Elab.async false
set_option maxRecDepth 100000
namespace Mine
open PySem
inductive FOut where
  | ok (t : T)
  | exc (C : Addr)
  | stuck
noncomputable def SDom (S : Addr → Prop) (h : Heap) : Prop := ∀ b, S b → ∃ o, h.get? b = some o
noncomputable def RetT (h : Heap) (S : Addr → Prop) (h' : Heap) (v : Value) : T → Prop
  | .sh d => RV S h' v d
  | .ow _ d => ∃ a, v = .ref a ∧ h.get? a = none ∧ ¬ S a ∧ OwnAt S h' a d
noncomputable def FEnd (G : Gd) (S : Addr → Prop) (s : Shared) (R : Result → Shared → Prop) : FOut → Prop
  | .ok t => ∀ v h' tk S', Kp s.heap h' → G.B.StaysIn h' → (∀ b, S b → S' b) → (∀ b, S' b → S b ∨ s.heap.get? b = none) → SDom S' h' → RetT s.heap S' h' v t → R (.ok (.ret v)) { s with heap := h', toks := tk }
  | .exc C => ∀ e h' tk, Kp s.heap h' → G.B.StaysIn h' → FlyT s.heap h' e C → R (.error (.ref e)) { s with heap := h', toks := tk }
  | .stuck => False
noncomputable def FnOK (G : Gd) (k : Nat) (g : Value) (F : List D → FOut) : Prop :=
  ∀ (A : Around) (fs : List Env) (S : Addr → Prop) (s : Shared) (vs : List Value) (ds : List D), Room A k → A.frames = some fs → (G.quiet = true → A.handled = none) → (∀ v, A.handled = some v → ∃ C, RV S s.heap v (.exc C)) → FF G.B s.heap fs → G.B.StaysIn s.heap → SDom S s.heap → RVs S s.heap vs ds →
    ∀ R, FEnd G S s R (F ds) → codeAny G.M A (.call g ⟨vs, []⟩) R s
noncomputable def initEnv (sc : Scope) (ps : List Str) (ds : List D) : AEnv := (varNames sc).map fun x => ((ps.zip ds).lookup x).map T.sh
noncomputable def finF : Res Fl → FOut
  | .ok (.ret t) _ => .ok t
  | .ok .next _ => .ok (.sh .none)
  | .ok _ _ => .stuck
  | .exc C _ => .exc C
  | .stuck => .stuck
noncomputable def runF (sc : Scope) (ps : List Str) (f : AEnv → Res Fl) (ds : List D) : FOut := if ds.length = ps.length then finF (f (initEnv sc ps ds)) else .stuck
theorem bindL_eq (K : Str → Option NameKind) : ∀ (binds : List (Str × Value)) (m : Str → Option Value) (y : Str), (binds.map (·.1)).Nodup → bindL K binds m y = if K y = some .local then (match binds.lookup y with | some v => some v | none => m y) else m y
  | [], m, y, _ => by simp [bindL]
  | (n, v) :: r, m, y, nd => by
    have nd' : n ∉ r.map (·.1) ∧ (r.map (·.1)).Nodup := by simpa using nd
    rw [bindL, bindL_eq K r _ y nd'.2]
    by_cases hy : y = n
    · subst hy
      have hn : r.lookup y = none := by
        rw [List.lookup_eq_none_iff]
        intro p hp
        have : p.1 ≠ y := fun q => nd'.1 (q ▸ List.mem_map_of_mem (f := (·.1)) hp)
        simpa using this.symm
      by_cases hk : K y = some .local
      · simp [hk, hn, List.lookup_cons]
      · simp [hk]
    · have hb : (y == n) = false := by simpa using hy
      by_cases hk : K y = some .local
      · rw [if_pos hk, if_pos hk, List.lookup_cons, hb]
        cases r.lookup y with
        | some w => rfl
        | none =>
          simp only
          split
          · simp [hy]
          · rfl
      · rw [if_neg hk, if_neg hk]
        split
        · simp [hy]
        · rfl
theorem bindC_eq (K : Str → Option NameKind) : ∀ (binds : List (Str × Value)) (m : Str → Option Value) (y : Str), (binds.map (·.1)).Nodup → bindC K binds m y = if K y = some .local then m y else (match binds.lookup y with | some v => some v | none => m y)
  | [], m, y, _ => by simp [bindC]
  | (n, v) :: r, m, y, nd => by
    have nd' : n ∉ r.map (·.1) ∧ (r.map (·.1)).Nodup := by simpa using nd
    rw [bindC, bindC_eq K r _ y nd'.2]
    by_cases hy : y = n
    · subst hy
      have hn : r.lookup y = none := by
        rw [List.lookup_eq_none_iff]
        intro p hp
        have : p.1 ≠ y := fun q => nd'.1 (q ▸ List.mem_map_of_mem (f := (·.1)) hp)
        simpa using this.symm
      by_cases hk : K y = some .local
      · simp [hk]
      · simp [hk, hn, List.lookup_cons]
    · have hb : (y == n) = false := by simpa using hy
      by_cases hk : K y = some .local
      · rw [if_pos hk, if_pos hk]
        split
        · rfl
        · simp [hy]
      · rw [if_neg hk, if_neg hk, List.lookup_cons, hb]
        cases r.lookup y with
        | some w => rfl
        | none =>
          simp only
          split
          · rfl
          · simp [hy]
theorem zip_lookup {S : Addr → Prop} {h : Heap} {y : Str} : ∀ {ps : List Str} {vs : List Value} {ds : List D}, RVs S h vs ds → ∀ {d : D}, (ps.zip ds).lookup y = some d → ∃ v, (ps.zip vs).lookup y = some v ∧ RV S h v d
  | [], _, _, _, d, e => by simp at e
  | p :: ps, _, _, .nil, d, e => by simp at e
  | p :: ps, _, _, .cons (v := v) q r, d, e => by
    rw [List.zip_cons_cons, List.lookup_cons] at e ⊢
    cases hb : y == p with
    | true => rw [hb] at e; cases e; exact ⟨v, rfl, q⟩
    | false => rw [hb] at e; exact zip_lookup r e
theorem zip_mem {y : Str} {v : Value} : ∀ {ps : List Str} {vs : List Value}, (ps.zip vs).lookup y = some v → v ∈ vs ∧ y ∈ ps
  | [], _, e => by simp at e
  | _ :: _, [], e => by simp at e
  | p :: ps, w :: vs, e => by
    rw [List.zip_cons_cons, List.lookup_cons] at e
    cases hb : y == p with
    | true => rw [hb] at e; cases e; exact ⟨.head _, by rw [beq_iff_eq.mp hb]; exact .head _⟩
    | false => rw [hb] at e; have := zip_mem e; exact ⟨.tail _ this.1, .tail _ this.2⟩
theorem map_fst_zip' {α β : Type} : ∀ (ps : List α) (vs : List β), vs.length = ps.length → (ps.zip vs).map (·.1) = ps
  | [], [], _ => rfl
  | p :: ps, v :: vs, h => by rw [List.zip_cons_cons, List.map_cons, map_fst_zip' ps vs (by simpa using h)]
  | [], _ :: _, h => by simp at h
  | _ :: _, [], h => by simp at h
theorem cells_some {x : Str} : ∀ (names : List (Str × NameKind)) (n : Nat) (acc : List (Str × Addr)), names.lookup x = some .cell ∨ (acc.lookup x).isSome = true → ((cellsFrom n names acc).lookup x).isSome = true
  | [], _, _, h => h.elim (fun e => by cases e) id
  | (y, k) :: r, n, acc, h => by
    unfold cellsFrom
    split
    · rename_i hk
      refine cells_some r (n + 1) ((y, n) :: acc) ?_
      cases hy : x == y with
      | true => exact .inr (by rw [List.lookup_cons, hy]; rfl)
      | false =>
        rcases h with h | h
        · rw [List.lookup_cons, hy] at h; exact .inl h
        · exact .inr (by rw [List.lookup_cons, hy]; exact h)
    · rename_i hk
      refine cells_some r n acc ?_
      cases hy : x == y with
      | true =>
        rcases h with h | h
        · rw [List.lookup_cons, hy] at h
          exact absurd (by rw [Option.some.inj h]; rfl) hk
        · exact .inr h
      | false =>
        rcases h with h | h
        · rw [List.lookup_cons, hy] at h; exact .inl h
        · exact .inr h
theorem fn_in {G : Gd} (hG : G.Ok) {k : Nat} {a : Addr} {fo : Obj} {fd : FuncData} {body : List Stmt} {ps : List Str} (hfo : G.B.get? a = some fo) (hfd : fo.data = .func fd) (hcode : G.B.CodeRec fd.code fd.qualname) (hbody : fd.body = .stmts body) (hclo : fd.closure = [])
    (hgl : fd.globals = mainGlobals) (hbl : fd.builtins = builtinsNs) (hbind : ∀ vs : List Value, vs.length = ps.length → bindArgs fd ⟨vs, []⟩ = pure (ps.zip vs))
    (hps : ∀ x ∈ ps, fd.scope.names.lookup x = some .local ∨ fd.scope.names.lookup x = some .cell) (hpn : ps.Nodup) (hnd : (varNames fd.scope).Nodup) (hkind : fd.scope.kind = .function) (hco : fd.scope.isCoroutine = false) (hgen : fd.scope.isGenerator = false)
    {A : Around} {fs : List Env} {S : Addr → Prop} {s : Shared} {vs : List Value} {ds : List D} {R : Result → Shared → Prop} (room : Room A (k + 1)) (fr : A.frames = some fs) (hd : G.quiet = true → A.handled = none) (hok : ∀ v, A.handled = some v → ∃ C, RV S s.heap v (.exc C)) (ff : FF G.B s.heap fs) (hB : G.B.StaysIn s.heap) (sd : SDom S s.heap) (rv : RVs S s.heap vs ds) (hlen : ds.length = ps.length)
    (h : ∀ (cx : Cx) (h₁ : Heap) (tk₁ : Nat), CxOk G cx fd.scope k → FnOk G cx → cx.h₀ = s.heap → cx.P = S → cx.fs.tail = fs → cx.env.frame = some cx.env.locals → Rel G cx fd.scope (initEnv fd.scope ps ds) S h₁ → (∀ b o, s.heap.get? b = some o → h₁.get? b = some o) →
      wpAny G.M cx.A (execs body cx.env) (fun f s' => R (.ok (.ret (match f with | .ret v => v | _ => .none))) s') (fun e s' => wpAny G.M cx.A (leaving cx.env e) (fun _ s'' => R (.error e) s'') (fun e' s'' => R (.error e') s'') s') { s with heap := h₁, toks := tk₁ }) :
    codeAny G.M A (.call (.ref a) ⟨vs, []⟩) R s := by
  have hvl : vs.length = ps.length := rv.length.trans hlen
  refine codeAny_call_cells (fd := fd) (binds := ps.zip vs) (by have := room.1; unfold recursionLimit; omega) (hB _ _ hfo) hfd (hG.nolimit.keeps hB) (let ⟨c, o, ws, t, e1, e2, e3, e4⟩ := hcode; ⟨c, o, ws, t, e1, hB _ _ e2, e3, e4⟩) hbody (hbind vs hvl) hclo
    (fun x hx => ?_) (fun s₁ X => ?_) hco hgen hkind
  · have hm : x.1 ∈ ps := by rw [← map_fst_zip' ps vs hvl]; exact List.mem_map_of_mem hx
    exact (hps _ hm).imp id fun q => ⟨q, cells_some _ _ _ (.inl q)⟩
  have D1 := X.toInCall.done
  obtain ⟨h₁, tk₁, rfl, hk₁⟩ := D1
  have nd : ((ps.zip vs).map (·.1)).Nodup := by rw [map_fst_zip' ps vs hvl]; exact hpn
  have hLn : s.heap.get? s.heap.objs.size = none := Heap.get?_none_of_le (Nat.le_refl _)
  have hBn : G.B.get? s.heap.objs.size = none := by
    cases q : G.B.get? s.heap.objs.size with
    | none => rfl
    | some o => rw [hB _ _ q] at hLn; cases hLn
  let cx : Cx := { A := A.deeper (callEnvC fd s.heap.objs.size a), env := callEnvC fd s.heap.objs.size a, fs := callEnvC fd s.heap.objs.size a :: fs, h₀ := s.heap, P := S }
  have ok : CxOk G cx fd.scope k := { hsc := rfl, hk := hkind, hg := hgl, hb := hbl, fr := by show (A.deeper _).frames = _; unfold Around.deeper; rw [fr]; rfl, top := ⟨_, fs, rfl, rfl⟩, hd := hd, room := ⟨by have := room.1; show A.depth + 1 + k ≤ 900; omega, by have := room.2; show A.units + 3 + 8 * k ≤ 9000; omega⟩, nodup := hnd }
  have above : ∀ x c, cx.env.cells.lookup x = some c → s.heap.objs.size < c := fun x c q => X.above x c (mem_of_lookup q)
  have fn : FnOk G cx := { bh := hB, lnew := hLn, cap := fun x y c q q' _ => name_of_addr X.apart (mem_of_lookup q) (mem_of_lookup q'), loc := fun x c q => Nat.ne_of_gt (above x c q), has := fun x q => let ⟨c, hc⟩ := Option.isSome_iff_exists.mp (cells_some _ _ _ (.inl q)); ⟨c, hc, Heap.get?_none_of_le (Nat.le_of_lt (above x c hc))⟩ }
  have vals : ∀ y v, Var cx.env h₁ y v → v ∈ vs := fun y v q => by
    rcases q with ⟨q1, m, n, e⟩ | ⟨q1, c, q2, n⟩
    · have := X.toInCall.ns.agree n y
      rw [e, bindL_eq _ _ _ _ nd, if_pos q1] at this
      cases hl : (ps.zip vs).lookup y with
      | none => rw [hl] at this; cases this
      | some w => rw [hl] at this; cases this; exact (zip_mem hl).1
    · have := IsCell.inj (X.cell y c q2) n
      rw [bindC_eq _ _ _ _ nd, if_neg (by show ¬ cx.env.kindOf y = some .local; rcases q1 with q | q <;> (rw [q]; decide))] at this
      cases hl : (ps.zip vs).lookup y with
      | none => rw [hl] at this; cases this
      | some w => rw [hl] at this; cases this; exact (zip_mem hl).1
  have r₀ : Rel G cx fd.scope (initEnv fd.scope ps ds) S h₁ := {
    base := fun b o q => hk₁ b o (hB b o q)
    keep := Kp.of_keeps hk₁
    ff := fun env he => by
      rcases List.mem_cons.mp he with rfl | he
      · obtain ⟨o, es, ep, q1, q2, _⟩ := X.toInCall.ns
        exact ⟨by show fd.scope.kind ≠ .module; rw [hkind]; decide, s.heap.objs.size, o, rfl, hBn, q1, es, ep, q2⟩
      · exact ff.kp (Kp.of_keeps hk₁) env he
    ns := ⟨_, X.toInCall.ns⟩
    cells := fun x c q => ⟨_, X.cell x c q⟩
    sdom := fun b q => let ⟨o, e⟩ := sd b q; ⟨o, hk₁ b o e⟩
    sok := fun b q => .inl q
    sloc := fun q => by obtain ⟨o, e⟩ := sd _ q; rw [show cx.env.locals = s.heap.objs.size from rfl, hLn] at e; cases e
    scell := fun x c q q' => by obtain ⟨o, e⟩ := sd _ q'; rw [show s.heap.get? c = none from Heap.get?_none_of_le (Nat.le_of_lt (above x c q))] at e; cases e
    live := fun x b _ q => by
      obtain ⟨d, _, rvd⟩ := rv.mem (vals x _ q)
      obtain ⟨o, e⟩ := rvd.live b rfl
      exact ⟨o, hk₁ b o e⟩
    clean := fun i x m d hx hi => by
      unfold initEnv at hi
      rw [List.getElem?_map, hx] at hi
      simp only [Option.map_some, Option.some.injEq] at hi
      cases hl : (ps.zip ds).lookup x with
      | none => rw [hl] at hi; cases hi
      | some d => rw [hl] at hi; cases hi
    hok := fun v q => let ⟨C, e⟩ := hok v q; ⟨C, e.ext (Ext.of_keeps hk₁)⟩
    vars := fun i x t hx ht => by
      unfold initEnv at ht
      rw [List.getElem?_map, hx] at ht
      simp only [Option.map_some, Option.some.injEq] at ht
      cases hl : (ps.zip ds).lookup x with
      | none => rw [hl] at ht; cases ht
      | some d =>
        rw [hl] at ht; cases ht
        obtain ⟨v, hv, rvd⟩ := zip_lookup rv hl
        refine ⟨v, ?_, rvd.ext (Ext.of_keeps hk₁)⟩
        rcases hps x (zip_mem hv).2 with q | q
        · refine .inl ⟨q, _, X.toInCall.ns, ?_⟩
          rw [bindL_eq _ _ _ _ nd, if_pos (show (callEnvC fd s.heap.objs.size a).kindOf x = some .local from q), hv]
        · obtain ⟨c, hc⟩ := Option.isSome_iff_exists.mp (cells_some fd.scope.names (s.heap.objs.size + 1) [] (.inl q) : ((cellsFrom (s.heap.objs.size + 1) fd.scope.names []).lookup x).isSome = true)
          refine .inr ⟨.inl q, c, hc, ?_⟩
          have := X.cell x c hc
          rw [bindC_eq _ _ _ _ nd, if_neg (show ¬ (callEnvC fd s.heap.objs.size a).kindOf x = some .local from by rw [show (callEnvC fd s.heap.objs.size a).kindOf x = some .cell from q]; decide), hv] at this
          exact this
    inj := fun i j x y m m' d d' v hx hy hi hj _ _ => by
      unfold initEnv at hi
      rw [List.getElem?_map, hx] at hi
      simp only [Option.map_some, Option.some.injEq] at hi
      cases hl : (ps.zip ds).lookup x with
      | none => rw [hl] at hi; cases hi
      | some d => rw [hl] at hi; cases hi
    dok := fun i x m ks es hx hi => by
      unfold initEnv at hi
      rw [List.getElem?_map, hx] at hi
      simp only [Option.map_some, Option.some.injEq] at hi
      cases hl : (ps.zip ds).lookup x with
      | none => rw [hl] at hi; cases hi
      | some d => rw [hl] at hi; cases hi }
  exact h cx h₁ tk₁ ok fn rfl rfl rfl rfl r₀ hk₁
theorem fn_ok {G : Gd} (hG : G.Ok) {k : Nat} {a : Addr} {fo : Obj} {fd : FuncData} {body : List Stmt} {f : AEnv → Res Fl} {ps : List Str} (hfo : G.B.get? a = some fo) (hfd : fo.data = .func fd) (hcode : G.B.CodeRec fd.code fd.qualname) (hbody : fd.body = .stmts body) (hclo : fd.closure = [])
    (hgl : fd.globals = mainGlobals) (hbl : fd.builtins = builtinsNs) (hbind : ∀ vs : List Value, vs.length = ps.length → bindArgs fd ⟨vs, []⟩ = pure (ps.zip vs))
    (hps : ∀ x ∈ ps, fd.scope.names.lookup x = some .local ∨ fd.scope.names.lookup x = some .cell) (hpn : ps.Nodup) (hnd : (varNames fd.scope).Nodup) (hkind : fd.scope.kind = .function) (hco : fd.scope.isCoroutine = false) (hgen : fd.scope.isGenerator = false)
    (h : SimSs G k fd.scope body f) : FnOK G (k + 1) (.ref a) (runF fd.scope ps f) := by
  intro A fs S s vs ds room fr hd hok ff hB sd rv R fin
  unfold runF at fin
  split at fin
  rotate_left
  · exact fin.elim
  rename_i hlen
  refine fn_in hG (body := body) (ps := ps) hfo hfd hcode hbody hclo hgl hbl hbind hps hpn hnd hkind hco hgen room fr hd hok ff hB sd rv hlen fun cx h₁ tk₁ ok fn e₀ eP _ _ r₀ hk₁ => ?_
  refine h cx ok fn (initEnv fd.scope ps ds) S { s with heap := h₁, toks := tk₁ } r₀ _ _ ?_
  cases hf : f (initEnv fd.scope ps ds) with
  | stuck => rw [hf] at fin; exact fin.elim
  | exc C ρ' =>
    rw [hf] at fin
    intro e h₂ t₂ S₂ r₂ f₂ x₂
    refine wp_leaving (B := G.B) (h := h₁) (s := { s with heap := h₂, toks := t₂ }) ok.fr r₂.ff ok.top f₂ x₂.dom fun h₃ k₃ f₃ => ?_
    have r₃ := r₀.kpE r₂ k₃ f₂ f₃
    refine fin e h₃ t₂ (e₀ ▸ r₃.keep) r₃.base ?_
    obtain ⟨n, oe, ws, T, oT, ts, a1, a2, a0, a3, a4, a5, a6, a7, a8⟩ := f₃
    have back : ∀ b, h₁.get? b = none → s.heap.get? b = none := fun b q => by
      cases q' : s.heap.get? b with
      | none => rfl
      | some o => rw [hk₁ b o q'] at q; cases q
    exact ⟨back e n, oe, ws, T, oT, ts, a1, a2, a0, a3, a4, a5, a6, back T a7, a8⟩
  | ok fl ρ' =>
    rw [hf] at fin
    intro v h₂ t₂ S₂ r₂ j₂ x₂ _
    have back : ∀ b, S₂ b → S b ∨ s.heap.get? b = none := by have := r₂.sok; rw [e₀, eP] at this; exact this
    cases v <;> cases fl <;> first
      | exact j₂.elim
      | exact fin.elim
      | exact fin .none h₂ t₂ S₂ (e₀ ▸ r₂.keep) r₂.base x₂.sub back r₂.sdom .none
      | skip
    rename_i v t
    refine fin v h₂ t₂ S₂ (e₀ ▸ r₂.keep) r₂.base x₂.sub back r₂.sdom ?_
    cases t with
    | sh d => exact j₂
    | ow m d => obtain ⟨b, e, n1, ow, n2⟩ := j₂; exact ⟨b, e, e₀ ▸ n2, n1, ow⟩
end Mine
end

section
set_option Elab.async false
set_option maxRecDepth 100000
namespace Mine
open PySem
inductive BVals (cx : Cx) (sc : Scope) (S : Addr → Prop) (h : Heap) : List Value → List Bv → Prop
  | nil : BVals cx sc S h [] []
  | cons {v : Value} {b : Bv} {vs : List Value} {bs : List Bv} : BVal cx sc S h v b → BVals cx sc S h vs bs → BVals cx sc S h (v :: vs) (b :: bs)
noncomputable def SimBs (G : Gd) (k : Nat) (sc : Scope) (es : List Expr) (f : AEnv → Res (List Bv)) : Prop :=
  ∀ pos cx, CxOk G cx sc k → ∀ ρ S s, Rel G cx sc ρ S s.heap → Does G cx sc true (spliced (backTo pos (starEach es cx.env))) S s (fun S' h' vs bs => BVals cx sc S' h' vs bs) (f ρ)
noncomputable def eNilB : AEnv → Res (List Bv) := fun ρ => .ok [] ρ
noncomputable def eConsB (f : AEnv → Res Bv) (g : AEnv → Res (List Bv)) : AEnv → Res (List Bv) := fun ρ => (f ρ).bind fun b ρ₁ => (g ρ₁).bind fun bs ρ₂ => .ok (b :: bs) ρ₂
theorem simBs_nil {G : Gd} {k : Nat} {sc : Scope} : SimBs G k sc [] eNilB := fun _ _ _ _ _ _ r => Does.pure r .nil
theorem simBs_cons {G : Gd} {k : Nat} {sc : Scope} {e : Expr} {rest : List Expr} {f : AEnv → Res Bv} {g : AEnv → Res (List Bv)} (he : SimB G k sc e f) (hr : SimBs G k sc rest g) (hs : unstarred e = true) : SimBs G k sc (e :: rest) (eConsB f g) := by
  intro pos cx ok ρ S s r
  rw [spliced_items hs]
  refine Does.bind (he cx ok ρ S s r) fun b ρ₁ v h₁ t₁ S₁ _ r₁ j₁ x₁ v₁ => ?_
  intro Q E out
  refine wpAny_bind (wpAny_pure ?_)
  refine (Does.bind (J' := fun S' h' vs bs => BVals cx sc S' h' vs bs) (Does.holding (hr pos cx ok ρ₁ S₁ { s with heap := h₁, toks := t₁ } r₁)) fun bs ρ₂ vs h₂ t₂ S₂ _ r₂ j₂ x₂ v₂ => ?_) Q E out
  exact Does.pure r₂ (.cons (BVal.ext j₁ x₂ (v₂ rfl)) j₂)
noncomputable def getAll (ρ : AEnv) : List Bv → Option (List D)
  | [] => some []
  | b :: bs => match b.get ρ, getAll ρ bs with
    | some d, some ds => some (d :: ds)
    | _, _ => none
noncomputable def isShared (ρ : AEnv) : Bv → Bool
  | .val _ => true
  | .var i => match ρ[i]? with
    | some (some (.sh _)) => true
    | _ => false
mutual
noncomputable def listFree : D → Bool
  | .list _ => false
  | .obj _ _ _ => false
  | .tup ds => listFrees ds
  | _ => true
noncomputable def listFrees : List D → Bool
  | [] => true
  | d :: ds => listFree d && listFrees ds
end
theorem RV.free {S S' : Addr → Prop} {h : Heap} {v : Value} {d : D} (q : RV S h v d) : listFree d = true → RV S' h v d :=
  RV.rec (motive_1 := fun v d _ => listFree d = true → RV S' h v d) (motive_2 := fun vs ds _ => listFrees ds = true → RVs S' h vs ds) (fun _ => .none) (fun b _ => .bool b) (fun i t _ => .int i t) (fun y t _ => .str y t) (fun e hc hd _ r q => .tup e hc hd (r (by rw [listFree] at q; exact q)))
    (fun _ _ _ _ _ _ q => by rw [listFree] at q; cases q) (fun e _ => .range e) (fun e hc hn hd r _ => .exc e hc hn hd r) (fun v hv _ => .glob v hv) (fun _ _ _ _ _ _ _ q => by rw [listFree] at q; cases q) (fun _ => .nil)
    (fun _ _ a b e => by rw [listFrees] at e; obtain ⟨e1, e2⟩ := Bool.and_eq_true_iff.mp e; exact .cons (a e1) (b e2)) q
section
variable {G : Gd} {cx : Cx} {sc : Scope} {ρ : AEnv} {S S' : Addr → Prop} {h h' : Heap}
theorem BVals.rvs {vs : List Value} {bs : List Bv} (q : BVals cx sc S h vs bs) (r : Rel G cx sc ρ S h) (hs : bs.all (isShared ρ) = true) : ∀ {ds : List D}, getAll ρ bs = some ds → RVs S h vs ds := by
  induction q with
  | nil => intro ds e; cases e; exact .nil
  | cons hb _ ih =>
    intro ds e
    rename_i v b vs bs _
    rw [getAll] at e
    rw [List.all_cons, Bool.and_eq_true_iff] at hs
    split at e
    · rename_i d ds' hd hds
      cases e
      refine .cons ?_ (ih hs.2 hds)
      cases b with
      | val d' => cases hd; exact hb
      | var i =>
        obtain ⟨y, hy, hv⟩ := hb
        have h1 := hs.1
        simp only [isShared] at h1
        simp only [Bv.get] at hd
        split at h1
        · rename_i d' ht
          rw [ht] at hd
          cases hd
          obtain ⟨w, hw, tv⟩ := r.vars i y _ hy ht
          rw [Var.inj hv hw]; exact tv
        · cases h1
    · cases e
theorem BVals.dom {vs : List Value} {bs : List Bv} (q : BVals cx sc S h vs bs) (r : Rel G cx sc ρ S h) : ∀ {ds : List D}, getAll ρ bs = some ds → RVs (fun b => ∃ o, h.get? b = some o) h vs ds := by
  induction q with
  | nil => intro ds e; cases e; exact .nil
  | cons hb _ ih =>
    intro ds e
    rename_i v b vs bs _
    rw [getAll] at e
    split at e
    · rename_i d ds' hd hds
      cases e
      refine .cons ?_ (ih hds)
      cases hb.rb r hd with
      | of q => exact q.ext (Ext.grow r.sdom)
      | own q =>
        unfold OwnAt at q
        split at q
        · obtain ⟨vs, n, e, rv⟩ := q; exact .list ⟨_, e⟩ e ⟨rfl, .inl rfl⟩ rfl (rv.ext (Ext.grow r.sdom))
        · exact q.elim
    · cases e
theorem Rel.kpS (r : Rel G cx sc ρ S h) (k : Kp h h') (hb : G.B.StaysIn h') (sub : ∀ b, S b → S' b) (new : ∀ b, S' b → S b ∨ h.get? b = none) (sd : SDom S' h') : Rel G cx sc ρ S' h' ∧ Ext S h S' h' := by
  have x : Ext S h S' h' := ⟨sub, fun b o e _ => k b o e, fun b o e => k.dom e⟩
  have r' := r.kp k hb
  refine ⟨⟨hb, r'.keep, r'.ff, r'.ns, r'.cells, sd, fun b q => ?_, fun q => ?_, fun y c e q => ?_, r'.live, r'.clean, fun v q => let ⟨C, e⟩ := r.hok v q; ⟨C, e.ext x⟩, fun i y t hy ht => ?_, r'.inj, r'.dok⟩, x⟩
  · exact (new b q).elim (r.sok b) fun q => .inr (r.keep.none q)
  · rcases new _ q with q | q
    · exact r.sloc q
    · obtain ⟨m, o, _, _, e, _⟩ := r.ns; rw [q] at e; cases e
  · rcases new _ q with q | q
    · exact r.scell y c e q
    · obtain ⟨v, o, e', _⟩ := r.cells y c e; rw [q] at e'; cases e'
  · obtain ⟨v, hv, tv⟩ := r.vars i y t hy ht
    refine ⟨v, hv.kp k, ?_⟩
    cases t with
    | sh d => exact RV.ext x tv
    | ow m d =>
      obtain ⟨a, rfl, n1, ow, n2⟩ := tv
      obtain ⟨o, ho, _⟩ := ow.live
      refine ⟨a, rfl, fun q => ?_, ow.ext x fun o' e' => k a o' e', n2⟩
      rcases new _ q with q | q
      · exact n1 q
      · rw [q] at ho; cases ho
end
noncomputable def callEnd (bs : List Bv) (ρ : AEnv) : FOut → Res T
  | .ok t => if bs.all (isShared ρ) then .ok t ρ else if listFree t.val then .ok (.sh t.val) ρ else .stuck
  | .exc C => .exc C ρ
  | .stuck => .stuck
noncomputable def eCall (F : List D → FOut) (fa : AEnv → Res (List Bv)) : AEnv → Res T := fun ρ => (fa ρ).bind fun bs ρ₁ => match getAll ρ₁ bs with
  | some ds => callEnd bs ρ₁ (F ds)
  | none => .stuck
section
variable {G : Gd} {k : Nat} {sc : Scope}
theorem does_callV {cx : Cx} {ρ : AEnv} {S : Addr → Prop} {s : Shared} {g : Value} {F : List D → FOut} {vs : List Value} {bs : List Bv} {ds : List D} {k' : Nat} (hF : FnOK G k' g F) (ok : CxOk G cx sc k) (hk : k' ≤ k) (r : Rel G cx sc ρ S s.heap) (q : BVals cx sc S s.heap vs bs) (e : getAll ρ bs = some ds) :
    Does G cx sc true (call g vs []) S s (fun S' h' v t => TTmp cx S' h' v t) (callEnd bs ρ (F ds)) := by
  intro Q E out
  refine wpAny_call ?_
  by_cases hs : bs.all (isShared ρ) = true
  · refine hF cx.A cx.fs S s vs ds (ok.room.mono hk) ok.fr ok.hd r.hok r.ff r.base r.sdom (q.rvs r hs e) _ ?_
    cases hf : F ds with
    | stuck => rw [hf] at out; exact out.elim
    | exc C =>
      rw [hf] at out
      intro ee h' tk kp hb fl
      exact out ee h' tk S (r.kp kp hb) fl.fly (Ext.of_kp kp)
    | ok t =>
      rw [hf] at out
      simp only [callEnd] at out
      rw [if_pos hs] at out
      intro v h' tk S' kp hb sub new sd ret
      obtain ⟨r', x'⟩ := r.kpS kp hb sub new sd
      refine out v h' tk S' r' ?_ x' fun _ => r.same kp
      cases t with
      | sh d => exact ret
      | ow m d =>
        obtain ⟨a, rfl, n1, n2, ow⟩ := ret
        refine ⟨a, rfl, n2, ow, r.keep.none n1, fun x hdx hx => ?_⟩
        obtain ⟨o, ho⟩ := r.live x a hdx (Var.of_kp kp r.ns r.cells hx)
        rw [n1] at ho; cases ho
  · refine hF cx.A cx.fs (fun b => ∃ o, s.heap.get? b = some o) s vs ds (ok.room.mono hk) ok.fr ok.hd (fun v q => let ⟨C, e⟩ := r.hok v q; ⟨C, e.ext (Ext.grow r.sdom)⟩) r.ff r.base (fun _ q => q) (q.dom r e) _ ?_
    cases hf : F ds with
    | stuck => rw [hf] at out; exact out.elim
    | exc C =>
      rw [hf] at out
      intro ee h' tk kp hb fl
      exact out ee h' tk S (r.kp kp hb) fl.fly (Ext.of_kp kp)
    | ok t =>
      rw [hf] at out
      simp only [callEnd] at out
      rw [if_neg hs] at out
      split at out
      · rename_i hfree
        intro v h' tk S' kp hb sub new sd ret
        refine out v h' tk S (r.kp kp hb) ?_ (Ext.of_kp kp) fun _ => r.same kp
        cases t with
        | sh d => exact RV.free ret hfree
        | ow m d =>
          obtain ⟨a, rfl, n1, n2, ow⟩ := ret
          exfalso
          unfold OwnAt at ow
          split at ow
          · simp [T.val, listFree] at hfree
          · exact ow
      · exact out.elim
theorem evalArgs_any {M : Model} {A : Around} {E : Value → Shared → Prop} {s : Shared} {env : Env} {pos : Pos} {f : Value} {es : List Expr} {Q : Args → Shared → Prop} (hu : es.all unstarred = true)
    (h : wpAny M A (spliced (backTo pos (starEach es env))) (fun vs s' => Q ⟨vs, []⟩ s') E s) : wpAny M A (evalArgs f true (backTo pos (starEach es env)) []) Q E s := by
  cases es with
  | nil =>
    unfold evalArgs
    show wpAny M A (spliced [] >>= _) Q E s
    refine wpAny_bind (wpAny_mono h (fun vs s' h' => ?_) fun _ _ x => x)
    refine wpAny_holding ?_
    exact wpAny_bind (wpAny_pure (wpAny_bind (wpAny_pure (wpAny_pure h'))))
  | cons e rest =>
    rw [List.all_cons, Bool.and_eq_true_iff] at hu
    rw [starEach_cons hu.1] at h ⊢
    exact Calls.evalArgs_plain h
theorem sim_call {g : Str} {p pos : Pos} {a : Addr} {fo : Obj} {fd : FuncData} {F : List D → FOut} {args : List Expr} {fa : AEnv → Res (List Bv)} {k' : Nat} (hn : Sim G k sc (.Name g p) (eConst (.glob (.ref a)))) (hfo : G.B.get? a = some fo) (hfd : fo.data = .func fd)
    (hF : FnOK G k' (.ref a) F) (hk : k' ≤ k) (ha : SimBs G k sc args fa) (hu : args.all unstarred = true) : Sim G k sc (.Call (.Name g p) args [] pos) (eCall F fa) := by
  intro cx ok ρ S s r Q E out
  show wpAny G.M cx.A (do callWith pos (← eval (.Name g p) cx.env) [] (backTo pos (starEach args cx.env)) []) Q E s
  refine wpAny_bind (hn cx ok ρ S s r _ _ ?_)
  intro v h₁ t₁ S₁ r₁ j₁ x₁ v₁
  have hv : v = .ref a := by cases j₁; rfl
  subst hv
  refine Calls.callWith_function (o := fo) (fd := fd) (evalArgs_any hu ?_)
  refine ha pos cx ok ρ S₁ { s with heap := h₁, toks := t₁ } r₁ _ _ ?_
  unfold eCall at out
  cases hfa : fa ρ with
  | stuck => rw [hfa] at out; exact out.elim
  | exc C ρ' => rw [hfa] at out; intro e h₂ t₂ S₂ r₂ f₂ x₂; exact out e h₂ t₂ S₂ r₂ (f₂.back x₁) (x₁.trans x₂)
  | ok bs ρ' =>
    rw [hfa] at out
    simp only [Res.bind] at out
    intro vs h₂ t₂ S₂ r₂ j₂ x₂ v₂
    refine ⟨⟨r₂.base _ _ hfo, hfd⟩, ?_⟩
    split at out
    · rename_i ds hds
      refine does_callV (s := { s with heap := h₂, toks := t₂ }) hF ok hk r₂ j₂ hds Q E ?_
      cases hc : callEnd bs ρ' (F ds) with
      | stuck => rw [hc] at out; exact out
      | exc C ρ'' => rw [hc] at out; intro e h₃ t₃ S₃ r₃ f₃ x₃; exact out e h₃ t₃ S₃ r₃ (f₃.back (x₁.trans x₂)) ((x₁.trans x₂).trans x₃)
      | ok t ρ'' => rw [hc] at out; intro w h₃ t₃ S₃ r₃ j₃ x₃ v₃; exact out w h₃ t₃ S₃ r₃ j₃ ((x₁.trans x₂).trans x₃) fun q => ((v₁ q).trans (v₂ q)).trans (v₃ q)
    · exact out.elim
end
end Mine
end

section
set_option Elab.async false
set_option maxRecDepth 100000
namespace Mine
open PySem
inductive RBs (S : Addr → Prop) (h : Heap) : List Value → List D → Prop
  | nil : RBs S h [] []
  | cons {v : Value} {d : D} {vs : List Value} {ds : List D} : RB S h v d → RBs S h vs ds → RBs S h (v :: vs) (d :: ds)
theorem BVals.all {G : Gd} {cx : Cx} {sc : Scope} {ρ : AEnv} {S : Addr → Prop} {h : Heap} {vs : List Value} {bs : List Bv} (q : BVals cx sc S h vs bs) (r : Rel G cx sc ρ S h) : ∀ {ds : List D}, getAll ρ bs = some ds → RBs S h vs ds := by
  induction q with
  | nil => intro ds e; cases e; exact .nil
  | cons hb _ ih =>
    intro ds e
    rw [getAll] at e
    split at e
    · rename_i d ds' hd hds
      cases e
      exact .cons (hb.rb r hd) (ih hds)
    · cases e
noncomputable def OpN (G : Gd) (m : List Value → Sem Value) (F : List D → Option T) : Prop :=
  ∀ cx sc, CxOk G cx sc 0 → ∀ ρ S s vs ds t, Rel G cx sc ρ S s.heap → RBs S s.heap vs ds → F ds = some t → Does G cx sc true (m vs) S s (fun S' h' v t => TTmp cx S' h' v t) (.ok t ρ)
noncomputable def eOpN (F : List D → Option T) (fa : AEnv → Res (List Bv)) : AEnv → Res T := fun ρ => (fa ρ).bind fun bs ρ₁ => match getAll ρ₁ bs with
  | some ds => (match F ds with | some t => .ok t ρ₁ | none => .stuck)
  | none => .stuck
theorem callWith_plain {M : Model} {A : Around} {E : Value → Shared → Prop} {s : Shared} {pos : Pos} {f : Value} {first : List Value} {args : List (Bool × Sem Value)} {Q : Value → Shared → Prop} (hf : ∀ a, f ≠ .ref a) (hplain : args.any (·.1) = false)
    (h : wpAny M A (evalArgs f true args []) (fun a s₁ => wpAny M A (call f (first ++ a.pos) a.kw) Q E s₁) E s) : wpAny M A (callWith pos f first args []) Q E s := by
  unfold callWith
  refine wpAny_bind (wpAny_holding (wpAny_mono h (fun a s₁ h₁ => wpAny_bind (wpAny_standAt ?_)) fun _ _ x => x))
  simp only [hplain, List.any_nil, Bool.or_false]
  have hk : keeperOf f = pure .machine := by
    unfold keeperOf
    cases f <;> first | rfl | exact absurd rfl (hf _)
  rw [hk]
  refine wpAny_bind (wpAny_pure ?_)
  exact wpAny_bind (wpAny_mono h₁ (fun r s₂ hr => wpAny_bind (wpAny_holding (wpAny_point (wpAny_pure hr)))) fun _ _ x => x)
theorem star_plain {pos : Pos} {env : Env} : ∀ (es : List Expr), es.all unstarred = true → (backTo pos (starEach es env)).any (·.1) = false
  | [], _ => rfl
  | e :: r, h => by
    rw [List.all_cons, Bool.and_eq_true_iff] at h
    rw [starEach_cons h.1]
    show (false || (backTo pos (starEach r env)).any (·.1)) = false
    rw [star_plain r h.2]; rfl
section
variable {G : Gd} {k : Nat} {sc : Scope}
theorem sim_callB {g : Str} {p pos : Pos} {f : Value} {F : List D → Option T} {args : List Expr} {fa : AEnv → Res (List Bv)} (hn : Sim G k sc (.Name g p) (eConst (.glob f))) (hf : ∀ a, f ≠ .ref a) (hop : OpN G (fun vs => call f vs []) F)
    (ha : SimBs G k sc args fa) (hu : args.all unstarred = true) : Sim G k sc (.Call (.Name g p) args [] pos) (eOpN F fa) := by
  intro cx ok ρ S s r Q E out
  show wpAny G.M cx.A (do callWith pos (← eval (.Name g p) cx.env) [] (backTo pos (starEach args cx.env)) []) Q E s
  refine wpAny_bind (hn cx ok ρ S s r _ _ ?_)
  intro v h₁ t₁ S₁ r₁ j₁ x₁ v₁
  have hv : v = f := by cases j₁; rfl
  subst hv
  refine callWith_plain hf (star_plain args hu) (evalArgs_any hu ?_)
  refine ha pos cx ok ρ S₁ { s with heap := h₁, toks := t₁ } r₁ _ _ ?_
  unfold eOpN at out
  cases hfa : fa ρ with
  | stuck => rw [hfa] at out; exact out.elim
  | exc C ρ' => rw [hfa] at out; intro e h₂ t₂ S₂ r₂ f₂ x₂; exact out e h₂ t₂ S₂ r₂ (f₂.back x₁) (x₁.trans x₂)
  | ok bs ρ' =>
    rw [hfa] at out
    simp only [Res.bind] at out
    intro vs h₂ t₂ S₂ r₂ j₂ x₂ v₂
    split at out
    · rename_i ds hds
      split at out
      · rename_i t ht
        refine hop cx sc (ok.mono (Nat.zero_le _)) ρ' S₂ { s with heap := h₂, toks := t₂ } vs ds t r₂ (BVals.all j₂ r₂ hds) ht Q E ?_
        intro w h₃ t₃ S₃ r₃ j₃ x₃ v₃
        exact out w h₃ t₃ S₃ r₃ j₃ ((x₁.trans x₂).trans x₃) fun q => ((v₁ q).trans (v₂ q)).trans (v₃ q)
      · exact out.elim
    · exact out.elim
end
noncomputable def isInstD (K : W.Frag) : D → Value → Option Bool
  | .none, c => W.kitOne [] (.type "NoneType") c
  | .bool _, c => W.kitOne [] (.type "bool") c
  | .int _, c => W.kitOne [] (.type "int") c
  | .str _, c => W.kitOne [] (.type "str") c
  | .tup _, c => W.kitOne [] (.type "tuple") c
  | .list _, c => W.kitOne [] (.type "list") c
  | .exc C, c => if excAsk K C then W.kitOne K (.ref C) c else none
  | _, _ => none
noncomputable def isInstI (K : W.Frag) : List D → Option T
  | [x, .glob c] => (isInstD K x c).map fun b => .sh (.bool b)
  | _ => none
theorem isInstI_inv {K : W.Frag} {ds : List D} {t : T} (e : isInstI K ds = some t) : ∃ x c, ds = [x, .glob c] ∧ (isInstD K x c).map (fun b => T.sh (.bool b)) = some t := by
  cases ds with
  | nil => exact nn e
  | cons x ds =>
    cases ds with
    | nil => exact nn e
    | cons y ds =>
      cases ds with
      | nil => cases y <;> first | exact ⟨_, _, rfl, e⟩ | exact nn e
      | cons z ds => cases y <;> exact nn e
theorem op_isinstance {G : Gd} (hG : G.Ok) : OpN G (fun vs => call (.builtin "isinstance") vs []) (isInstI G.K) := by
  intro cx sc ok ρ S s vs ds t rel q e Q E out
  obtain ⟨x, c, rfl, e⟩ := isInstI_inv e
  · obtain ⟨b, hb, rfl⟩ := Option.map_eq_some_iff.mp e
    cases q with
    | cons qx q =>
      cases q with
      | cons qc q =>
        cases q
        have hc := qc.rv fun _ e => by cases e
        cases hc
        have nil : W.Frag.In [] s.heap := fun _ _ e => by cases e
        have fin : ∀ tk, Q (.bool b) { s with toks := tk } := fun tk => out_sh out rel (.bool _)
        cases x with
        | none => rw [qx.none]; exact W.kia_one W.kitx_none nil trivial hb (fun e => by cases e) fin
        | bool i => rw [qx.bool]; exact W.kia_one W.kitx_bool nil trivial hb (fun e => by cases e) fin
        | int i => obtain ⟨_, rfl⟩ := qx.int; exact W.kia_one W.kitx_int nil trivial hb (fun e => by cases e) fin
        | str i => obtain ⟨_, rfl⟩ := qx.str; exact W.kia_one W.kitx_str nil trivial hb (fun e => by cases e) fin
        | tup ds => obtain ⟨a, o, vs, n, rfl, h1, h2, _⟩ := qx.tup; exact W.kia_one W.kitx_tuple nil ⟨o, h1, h2⟩ hb (fun e => by cases e) fin
        | list ds => obtain ⟨a, o, vs, n, rfl, h1, h2, _⟩ := qx.list; exact W.kia_one W.kitx_list nil ⟨o, h1, h2⟩ hb (fun e => by cases e) fin
        | exc C =>
          have hb : (if excAsk G.K C = true then W.kitOne G.K (.ref C) c else none) = some b := hb
          by_cases ha : excAsk G.K C = true
          · rw [if_pos ha] at hb
            have := qx.rv fun _ e => by cases e
            cases this with
            | exc h1 h2 h3 h4 h5 =>
              exact W.kia_one (kitx_of_ask ha) (hG.K.keeps rel.base) ⟨_, h1, h2, by unfold W.notCls; rw [h4], h3⟩ hb (fun e => by cases e) fin
          · rw [if_neg ha] at hb; exact nn hb
        | range _ _ _ => exact nn hb
        | glob _ => exact nn hb
        | dict _ _ => exact nn hb
        | obj _ _ _ => exact nn hb
end Mine
end

section
set_option Elab.async false
set_option maxRecDepth 100000
namespace Mine
open PySem
noncomputable def sRaise (C : Addr) (fa : AEnv → Res (List D)) : AEnv → Res Fl := fun ρ => (fa ρ).bind fun ds ρ₁ => if ds.length ≤ 1000 then .exc C ρ₁ else .stuck
section
variable {G : Gd} {k : Nat} {sc : Scope}
theorem simS_Raise {x : Str} {C : Addr} {bm : List Value} {newId Bn initId : String} {np cpos pos : Pos} {args : List Expr} {fa : AEnv → Res (List D)} (hG : G.Ok) (hq : G.quiet = true) (O : PyProof.Rows.OwnCls x C bm newId G.mg G.B) (FB : ExcBaseFacts Bn newId initId bm)
    (hx : sc.names.lookup x = some .globalImplicit) (hd : (x == ("__debug__" : Str)) = false) (ha : SimVs G k sc args fa) (hu : args.all unstarred = true) : SimS G k sc (.Raise (some (.Call (.Name x np) args [] cpos)) none pos) (sRaise C fa) := by
  intro cx ok fn ρ S s r Q E out
  obtain ⟨tl, N, nm, q, bs, hdct, sn, sub, ab, col, dd, k0, k1, k2, k3, k5, mN, hC, hN, hni, T⟩ := O.obj
  refine wpAny_Raise_call_subT (C := C) (nm := nm) (q := q) (N := N) (bs := bs) (bm := tl) (hdct := hdct) (sn := sn) (sub := sub) (ab := ab) (col := col) (dd := dd) (k0 := k0) (k1 := k1) (k2 := k2) (k3 := k3) (k5 := k5)
    FB (mN := mN) (T.hasType FB.hasBase) (ok.hd hq) (star_plain args hu) hni ?_
  have hn := sim_global (k := k) (sc := sc) (pos := np) hG hx O.bound (fun a e => by cases e; exact ⟨_, hC⟩) hd
  refine hn cx ok ρ S s r _ _ ?_
  intro v h₁ t₁ S₁ r₁ j₁ x₁ v₁
  refine ⟨by cases j₁; rfl, evalArgs_any hu ?_⟩
  refine ha cpos cx ok ρ S₁ { s with heap := h₁, toks := t₁ } r₁ _ _ ?_
  unfold sRaise at out
  cases hfa : fa ρ with
  | stuck => rw [hfa] at out; exact out.elim
  | exc C ρ' => rw [hfa] at out; intro e h₂ t₂ S₂ r₂ f₂ x₂; exact out e h₂ t₂ S₂ r₂ (f₂.back x₁) (x₁.trans x₂)
  | ok ds ρ' =>
    rw [hfa] at out
    simp only [Res.bind] at out
    intro vs h₂ t₂ S₂ r₂ j₂ x₂ v₂
    split at out
    · rename_i hl
      refine ⟨rfl, by show vs.length ≤ sizeLine; rw [j₂.length, sizeLine_eq]; omega, r₂.base _ _ hC, hN.keeps r₂.base, T.keeps r₂.base, fun h₃ e m => ?_⟩
      obtain ⟨t, m1, m2, m3⟩ := m.there
      refine out e h₃ t₂ S₂ (r₂.keeps m.keeps) ⟨(x₁.trans x₂).none m.new, _, _, m1, rfl, rfl, rfl, rfl, .inl rfl⟩ ((x₁.trans x₂).trans (Ext.of_keeps m.keeps))
    · exact out.elim
end
noncomputable def sTry (K : W.Frag) (C' : Addr) (i : Nat) (f g : AEnv → Res Fl) : AEnv → Res Fl := fun ρ => match f ρ with
  | .ok fl ρ₁ => .ok fl ρ₁
  | .exc C ρ₁ => if W.mroIn K C (.ref C') == some true then (match g (ρ₁.set i (some (.sh (.exc C)))) with
      | .ok fl ρ₂ => .ok fl (ρ₂.set i none)
      | _ => .stuck) else .stuck
  | .stuck => .stuck
noncomputable def Gd.loud (G : Gd) : Gd := { G with quiet := false }
theorem Rel.loud {G : Gd} {cx : Cx} {sc : Scope} {ρ : AEnv} {S : Addr → Prop} {h : Heap} {A' : Around} (r : Rel G cx sc ρ S h) (hok : ∀ v, A'.handled = some v → ∃ C, RV S h v (.exc C)) : Rel G.loud { cx with A := A' } sc ρ S h :=
  ⟨r.base, r.keep, r.ff, r.ns, r.cells, r.sdom, r.sok, r.sloc, r.scell, r.live, r.clean, hok, r.vars, r.inj, r.dok⟩
theorem Rel.unloud {G : Gd} {cx : Cx} {sc : Scope} {ρ : AEnv} {S : Addr → Prop} {h : Heap} {A' : Around} (hok : ∀ v, cx.A.handled = some v → ∃ C, RV S h v (.exc C)) (r : Rel G.loud { cx with A := A' } sc ρ S h) : Rel G cx sc ρ S h :=
  ⟨r.base, r.keep, r.ff, r.ns, r.cells, r.sdom, r.sok, r.sloc, r.scell, r.live, r.clean, hok, r.vars, r.inj, r.dok⟩
theorem wp_nameGoes {G : Gd} {cx : Cx} {sc : Scope} {ρ : AEnv} {S : Addr → Prop} {s : Shared} {i : Nat} {n : Str} {pos : Pos} {M : Model} {A : Around} {E : Value → Shared → Prop} {Q : Unit → Shared → Prop} (ok : CxOk G cx sc 0) (fn : FnOk G cx) (r : Rel G cx sc ρ S s.heap) (hx : (varNames sc)[i]? = some n) (hk : sc.names.lookup n = some .local) (hdn : isDirty n = true)
    (hQ : ∀ h' tk, Rel G cx sc (ρ.set i none) S h' → Ext S s.heap S h' → (∀ v t, RTmp cx S s.heap v t → RTmp cx S h' v t) → Q () { s with heap := h', toks := tk }) : wpAny M A (do bindName cx.env n .none; unbindBehindTheSuite cx.env n pos) Q E s := by
  have hkf : cx.env.scope.kind = .function := by rw [ok.hsc]; exact ok.hk
  have kd : ∀ y, cx.env.kindOf y = sc.names.lookup y := fun y => by unfold Env.kindOf; rw [ok.hsc]
  obtain ⟨m, hm⟩ := r.ns
  have hm0 := hm
  obtain ⟨oL, es, ep, eL, dL, _⟩ := hm0
  refine wpAny_nameGoes_keeps ((kd n).trans hk) hm (by rw [hkf]; rfl) fun h' v n' k => ?_
  have n'' := n'
  obtain ⟨oL', es', ep', eL', dL', _⟩ := n''
  have x' : Ext S s.heap S h' := ext_but eL (by rintro (⟨_, vs, n, q⟩ | ⟨vs, q⟩) <;> (rw [dL] at q; cases q)) r.sloc k ⟨_, eL'⟩
  have ow' : ∀ {a d}, OwnAt S s.heap a d → OwnAt S h' a d := fun {a d} q => q.ext x' fun o eo => (k.2 a (by
    rintro rfl
    obtain ⟨o', ho', _, vs, n, hd⟩ := q.cls
    rw [eL] at ho'; cases ho'; rw [dL] at hd; cases hd)).trans eo
  have cellsame : ∀ y c, cx.env.cells.lookup y = some c → ∀ w, s.heap.IsCell c w → h'.IsCell c w := fun y c q w n => n.sameBut k (fn.loc y c q)
  have hb : ∀ y w, y ≠ n → Var cx.env s.heap y w → Var cx.env h' y w := fun y w hy q => by
    rcases q with ⟨a, m₁, b, c⟩ | ⟨a, c, b, d⟩
    · refine .inl ⟨a, _, n', ?_⟩
      rw [if_neg hy, ← b.agree hm y]; exact c
    · exact .inr ⟨a, c, b, cellsame y c b _ d⟩
  have hf : ∀ y w, y ≠ n → Var cx.env h' y w → Var cx.env s.heap y w := fun y w hy q => by
    rcases q with ⟨a, m₁, b, c⟩ | ⟨a, c, b, d⟩
    · refine .inl ⟨a, m, hm, ?_⟩
      have := b.agree n' y
      rw [if_neg hy] at this
      rw [← this]; exact c
    · obtain ⟨w₀, n₀⟩ := r.cells y c b
      exact .inr ⟨a, c, b, by rw [IsCell.inj d (cellsame y c b _ n₀)]; exact n₀⟩
  have neName : ∀ (j : Nat) (y : Str), (varNames sc)[j]? = some y → j ≠ i → y ≠ n := fun j y hy hj q => by
    subst q
    obtain ⟨h1, e1⟩ := List.getElem?_eq_some_iff.mp hx
    obtain ⟨h2, e2⟩ := List.getElem?_eq_some_iff.mp hy
    exact hj ((List.getElem_inj ok.nodup).mp (e2.trans e1.symm))
  have ne : ∀ (j : Nat) u, (ρ.set i none)[j]? = some (some u) → j ≠ i ∧ ρ[j]? = some (some u) := fun j u q => by
    by_cases hj : j = i
    · exfalso
      subst hj
      by_cases hl : j < ρ.length
      · rw [List.getElem?_set_self hl] at q; cases q
      · rw [List.getElem?_eq_none (by rw [List.length_set]; omega)] at q; cases q
    · rw [List.getElem?_set_ne (Ne.symm hj)] at q; exact ⟨hj, q⟩
  refine hQ h' _ ⟨fun b o q => (k.2 b (by rintro rfl; have := fn.bh _ _ q; rw [fn.lnew] at this; cases this)).trans (r.base b o q), fun b o q => ?_, fun env he => ?_, ⟨_, n'⟩, fun y c q => let ⟨w, n⟩ := r.cells y c q; ⟨w, cellsame y c q w n⟩, fun b q => let ⟨o, eo⟩ := r.sdom b q; x'.dom b o eo, r.sok, r.sloc, r.scell,
    fun y a hdy q => ?_, fun j y mm d hy hj => r.clean j y mm d hy (ne j _ hj).2, fun v q => let ⟨C, e⟩ := r.hok v q; ⟨C, e.ext x'⟩, fun j y u hy hu => ?_, fun j l y z mm m' d d' u hy hz hj hl a b => ?_, fun j y mm ks ds hy hj hvy => r.dok j y mm ks ds hy (ne j _ hj).2 (hf y _ (neName j y hy (ne j _ hj).1) hvy)⟩ x' fun v t q => ?_
  · obtain ⟨sl, q₁, k₁⟩ := r.keep b o q
    exact ⟨sl, (k.2 b (by rintro rfl; rw [fn.lnew] at q; cases q)).trans q₁, k₁⟩
  · obtain ⟨a, L, o, b, c, d, es, n, q⟩ := r.ff env he
    by_cases hL : L = cx.env.locals
    · subst hL; exact ⟨a, _, _, b, c, eL', es', ep', dL'⟩
    · exact ⟨a, L, o, b, c, (k.2 L hL).trans d, es, n, q⟩
  · have hy : y ≠ n := by rintro rfl; rw [hdn] at hdy; cases hdy
    obtain ⟨o, eo⟩ := r.live y a hdy (hf y _ hy q)
    exact x'.dom a o eo
  · obtain ⟨hj, hu⟩ := ne j u hu
    obtain ⟨w, hw, tw⟩ := r.vars j y u hy hu
    refine ⟨w, hb y w (neName j y hy hj) hw, ?_⟩
    cases u with
    | sh d => exact RV.ext x' tw
    | ow m d =>
      obtain ⟨a, rfl, n1, ow, n2⟩ := tw
      refine ⟨a, rfl, n1, ?_, n2⟩
      rcases ow.cases with ow | ⟨ks, ds, rfl, ow⟩
      · exact (ow' ow).v
      · refine DictAt.map x'.carry (fun o eo => ⟨o.slots, (k.2 a ?_).trans eo⟩) ow
        rintro rfl
        exact r.dok j y m ks ds hy hu hw
  · obtain ⟨hji, hj⟩ := ne j _ hj
    obtain ⟨hli, hl⟩ := ne l _ hl
    exact r.inj j l y z mm m' d d' u hy hz hj hl (hf y _ (neName j y hy hji) a) (hf z _ (neName l z hz hli) b)
  · cases t with
    | sh d => exact RV.ext x' q
    | ow m d => obtain ⟨a, rfl, n1, ow, n2⟩ := q; exact ⟨a, rfl, n1, ow' ow, n2⟩
section
variable {G : Gd} {k : Nat} {sc : Scope}
theorem simS_Try {body suite : List Stmt} {b₀ : Stmt} {x n : Str} {np hp pos : Pos} {C' : Addr} {i : Nat} {f g : AEnv → Res Fl} (hG : G.Ok) (hq : G.quiet = true) (hb : SimSs G k sc body f) (hs : SimSs G.loud k sc (b₀ :: suite) g)
    (hn : Sim G.loud k sc (.Name x np) (eConst (.glob (.ref C')))) (hx : (varNames sc)[i]? = some n) (hk : sc.names.lookup n = some .local) (hdn : isDirty n = true)
    (hty : W.typeIn G.K (.ref C') = some (.type "type")) (hcl : (W.clsIn G.K C').isSome = true) (hbe : W.mroIn G.K C' (.type "BaseException") = some true) :
    SimS G k sc (.Try body [.ExceptHandler (some (.Name x np)) (some n) (b₀ :: suite) hp] [] [] pos) (sTry G.K C' i f g) := by
  intro cx ok fn ρ S s r Q E out
  refine wpAny_Try_except ?_
  refine hb cx ok fn ρ S s r _ _ ?_
  unfold sTry at out
  cases hf : f ρ with
  | stuck => rw [hf] at out; exact out.elim
  | ok fl ρ₁ =>
    rw [hf] at out
    intro a h₁ t₁ S₁ r₁ j₁ x₁ v₁
    have := out a h₁ t₁ S₁ r₁ j₁ x₁ v₁
    cases a <;> first | exact this | exact wpAny_execs_nil this
  | exc C ρ₁ =>
    rw [hf] at out
    simp only at out
    split at out
    rotate_left
    · exact out.elim
    rename_i hmro
    have hmro : W.mroIn G.K C (.ref C') = some true := beq_iff_eq.mp hmro
    intro e h₁ t₁ S₁ r₁ f₁ x₁
    refine wp_noteFrame (B := G.B) (h := s.heap) (s := { s with heap := h₁, toks := t₁ }) ok.fr r₁.ff ok.top f₁ x₁.dom fun h₂ k₂ f₂ => ?_
    have r₂ := r.kpE r₁ k₂ f₁ f₂
    have x₂ := Ext.kpE (G := G) x₁ k₂ f₁
    refine wp_setFlight (B := G.B) (s := { s with heap := h₂, toks := t₁ }) f₂ fun h₃ k₃ f₃ => ?_
    have r₃ := r.kpE r₂ k₃ f₂.fly f₃
    have x₃ := Ext.kpE (G := G) x₂ k₃ f₂.fly
    refine wpAny_handleBy_cons (codeAny_handlers_test ?_) (by intro q; cases q)
    let A' := cx.A.mark (some (.ref e))
    let cx' : Cx := { cx with A := A' }
    have hA' : A'.handled = some (.ref e) := rfl
    have ok' : CxOk G.loud cx' sc k := { hsc := ok.hsc, hk := ok.hk, hg := ok.hg, hb := ok.hb, fr := ok.fr, top := ok.top, hd := (fun q => by cases q), room := ok.room, nodup := ok.nodup }
    have fn' : FnOk G.loud cx' := ⟨⟨fn.bh, fn.lnew, fn.cap, fn.loc⟩, fn.has⟩
    have exc₃ : ∀ S', RV S' h₃ (.ref e) (.exc C) := fun S' => by
      obtain ⟨_, oe, vs, T, oT, ts, a1, a2, a0, a3, a4, _⟩ := f₃
      exact .exc a1 a2 a0 a3 a4
    have hok₃ : ∀ v, A'.handled = some v → ∃ C, RV S₁ h₃ v (.exc C) := fun v q => by rw [hA'] at q; cases q; exact ⟨C, exc₃ _⟩
    have rl₃ : Rel G.loud cx' sc ρ₁ S₁ h₃ := Rel.loud r₃ hok₃
    refine hn cx' ok' ρ₁ S₁ { s with heap := h₃, toks := t₁ } rl₃ _ _ ?_
    intro v h₄ t₄ S₄ r₄ j₄ x₄ v₄
    have hv : v = .ref C' := by cases j₄; rfl
    subst hv
    have exc₄ : RV S₄ h₄ (.ref e) (.exc C) := (exc₃ S₁).ext x₄
    have X₄ : G.K.In h₄ := hG.K.keeps r₄.base
    cases exc₄ with
    | exc e1 e2 e3 e4 e5 =>
    refine wp_excMatches (s := { s with heap := h₄, toks := t₄ }) X₄ e1 e2 hty hcl hbe hmro ?_
    simp only [if_true]
    refine codeAny_handlers_suite_as ?_
    have f₄ : FlyT s.heap h₄ e C := by
      obtain ⟨hne, oe, vs, T, oT, ts, a1, a2, a0, a3, a4, a5, a6, a7, a8, a9, a10, a11⟩ := f₃
      exact ⟨hne, oe, vs, T, oT, ts, x₄.exact a1 (.inr (.inr ⟨_, a3⟩)) (.fields a3), a2, a0, a3, a4, a5, a6, a7, x₄.exact a8 (.inr (.inr ⟨_, a10⟩)) (.fields a10), a9, a10, a11⟩
    have x₄' := x₃.trans x₄
    refine wp_setFlight (B := G.B) (h := s.heap) (s := { s with heap := h₄, toks := t₄ }) f₄ fun h₅ k₅ f₅ => ?_
    have r4' : Rel G cx sc ρ₁ S₄ h₄ := Rel.unloud (fun v q => by rw [ok.hd hq] at q; cases q) r₄
    have r₅ : Rel G cx sc ρ₁ S₄ h₅ := r.kpE r4' k₅ f₄.fly f₅
    have x₅ := Ext.kpE (G := G) x₄' k₅ f₄.fly
    have exc₅ : ∀ S', RV S' h₅ (.ref e) (.exc C) := fun S' => by
      obtain ⟨_, oe, vs, T, oT, ts, a1, a2, a0, a3, a4, _⟩ := f₅
      exact .exc a1 a2 a0 a3 a4
    have rl₅ : Rel G.loud cx' sc ρ₁ S₄ h₅ := Rel.loud r₅ (fun v q => by rw [hA'] at q; cases q; exact ⟨C, exc₅ _⟩)
    refine does_store (s := { s with heap := h₅, toks := t₄ }) (ok'.mono (Nat.zero_le _)) fn'.toFnCx rl₅ hx (.inl hk) (t := .sh (.exc C)) (.inr ⟨_, rfl⟩) (exc₅ S₄) _ _ ?_
    intro _ h₆ t₆ S₆ r₆ _ x₆ _
    refine hs cx' ok' fn' _ S₆ { s with heap := h₆, toks := t₆ } r₆ _ _ ?_
    cases hg : g (ρ₁.set i (some (.sh (.exc C)))) with
    | stuck => rw [hg] at out; exact out.elim
    | exc C₂ ρ₂ => rw [hg] at out; exact out.elim
    | ok fl ρ₂ =>
      rw [hg] at out
      intro a h₇ t₇ S₇ r₇ j₇ x₇ _
      have r7' : Rel G cx sc ρ₂ S₇ h₇ := Rel.unloud (fun v q => by rw [ok.hd hq] at q; cases q) r₇
      refine wp_nameGoes (s := { s with heap := h₇, toks := t₇ }) (ok.mono (Nat.zero_le _)) fn r7' hx hk hdn fun h₈ t₈ r₈ x₈ rt => ?_
      refine out a h₈ t₈ S₇ r₈ ?_ (((x₅.trans x₆).trans x₇).trans x₈) fun q => by cases q
      cases a <;> cases fl <;> first | exact j₇ | exact rt _ _ j₇
end
end Mine
end

section
set_option Elab.async false
set_option maxRecDepth 100000
namespace Mine
open PySem PyProof.Rows
noncomputable def SimBo (G : Gd) (k : Nat) (sc : Scope) (op : BoolOp) (es : List Expr) (f : AEnv → Res T) : Prop :=
  ∀ pos cx, CxOk G cx sc k → ∀ ρ S s, Rel G cx sc ρ S s.heap → Does G cx sc true (boolOp pos op (evalEach es cx.env)) S s (fun S' h' v t => TTmp cx S' h' v t) (f ρ)
noncomputable def isAnd : BoolOp → Bool
  | .And => true
  | .Or => false
noncomputable def eBo (op : BoolOp) (f : AEnv → Res Bv) (g : AEnv → Res T) : AEnv → Res T := fun ρ => (f ρ).bind fun a ρ₁ => match a.get ρ₁ with
  | some x => (match asB x with | some b => if b == isAnd op then g ρ₁ else .ok (.sh (.bool b)) ρ₁ | none => .stuck)
  | none => .stuck
section
variable {G : Gd} {k : Nat} {sc : Scope} {op : BoolOp}
theorem simBo_one {x : Expr} {f : AEnv → Res T} (h : Sim G k sc x f) : SimBo G k sc op [x] f := fun _ cx ok ρ S s r => h cx ok ρ S s r
theorem simBo_cons {x y : Expr} {rest : List Expr} {f : AEnv → Res Bv} {g : AEnv → Res T} (hx : SimB G k sc x f) (hr : SimBo G k sc op (y :: rest) g) : SimBo G k sc op (x :: y :: rest) (eBo op f g) := by
  intro pos cx ok ρ S s r
  show Does G cx sc true (do
    let v ← eval x cx.env
    standAt pos
    let t ← holding [v] (truthy v)
    match op, t with
    | .And, false | .Or, true => pure v
    | _, _ => boolOp pos op (evalEach (y :: rest) cx.env)) S s _ _
  refine Does.bind (hx cx ok ρ S s r) fun a ρ₁ va h₁ t₁ S₁ _ r₁ ja x₁ v₁ => ?_
  refine Does.standAt ?_
  split
  · rename_i d hd
    split
    · rename_i b hb
      have rb := BVal.rb ja r₁ hd
      unfold asB at hb
      split at hb
      · cases hb
        rw [rb.bool]
        intro Q E out
        refine wpAny_bind (wpAny_holding (wpAny_truthy_bool ?_))
        cases op <;> cases b
        · exact wpAny_pure (out _ h₁ t₁ S₁ r₁ (.bool _) (Ext.refl ..) fun _ => VarSame.refl _ _)
        · exact hr pos cx ok ρ₁ S₁ _ r₁ Q E out
        · exact hr pos cx ok ρ₁ S₁ _ r₁ Q E out
        · exact wpAny_pure (out _ h₁ t₁ S₁ r₁ (.bool _) (Ext.refl ..) fun _ => VarSame.refl _ _)
      · cases hb
    · exact Does.stuck
  · exact Does.stuck
theorem sim_BoolOp {es : List Expr} {pos : Pos} {f : AEnv → Res T} (h : SimBo G k sc op es f) : Sim G k sc (.BoolOp op es pos) f := fun cx ok ρ S s r => h pos cx ok ρ S s r
end
noncomputable def notI : D → Option T
  | .bool b => some (.sh (.bool !b))
  | _ => none
theorem op_not {G : Gd} : Op1 G (unaryOp .Not) notI := by
  intro cx sc ok ρ S s v x t rel rx e Q E out
  unfold notI at e; split at e
  · cases e; rw [rx.bool]
    exact not_value (wpAny_truthy_bool (out_sh out rel (tk := s.toks) (.bool _)))
  · cases e
theorem sim_globalInt {G : Gd} {k : Nat} {sc : Scope} {pos : Pos} {x : Str} {i : Int} {t : Tok} (hG : G.Ok) (hx : sc.names.lookup x = some .globalImplicit) (hv : G.mg x = some (.int i t)) (hd : (x == ("__debug__" : Str)) = false) : Sim G k sc (.Name x pos) (eConst (.int i)) := by
  intro cx ok ρ S s r Q E out
  refine Calls.Name_function_global (by rw [ok.hsc]; exact ok.hk) (by unfold Env.kindOf; rw [ok.hsc]; exact hx) (Calls.loadGlobal_global (mg := G.mg) (by rw [ok.hg]; exact hG.g.keeps r.base) hv ?_) hd
  exact out _ s.heap s.toks _ r (.int i t) (Ext.refl ..) fun _ => VarSame.refl _ _
noncomputable def idxD (ds : List D) (i : Int) : Option D := if 0 ≤ i then (if i < 2 ^ 63 then ds[i.toNat]? else none) else if -(2 ^ 63) ≤ i ∧ -(ds.length : Int) ≤ i then ds[(i + ds.length).toNat]? else none
noncomputable def idxI : D → D → Option T
  | .tup ds, .int i => (idxD ds i).map .sh
  | .list ds, .int i => (idxD ds i).map .sh
  | _, _ => none
theorem seqIndex_pos {i : Int} {n : Nat} (h0 : 0 ≤ i) (h1 : i < n) : seqIndex? i n = some i.toNat := by
  unfold seqIndex?
  have h2 : ¬ (i < 0) := by omega
  simp only [h2, if_false]
  rw [if_pos (by simp only [Bool.and_eq_true, decide_eq_true_eq]; omega)]
theorem idxD_get {S : Addr → Prop} {h : Heap} {vs : Array Value} {ds : List D} {i : Int} {d : D} (q : RVs S h vs.toList ds) (e : idxD ds i = some d) :
    ∃ v, RV S h v d ∧ -(2 ^ 63) ≤ i ∧ i < 2 ^ 63 ∧ ((0 ≤ i ∧ vs[i.toNat]? = some v ∧ seqIndex? i vs.size = some i.toNat) ∨ (i < 0 ∧ -(vs.size : Int) ≤ i ∧ vs[(i + vs.size).toNat]? = some v ∧ seqIndex? i vs.size = some (i + vs.size).toNat)) := by
  have hl : vs.size = ds.length := by rw [← q.length]; simp
  unfold idxD at e
  split at e
  · split at e
    · obtain ⟨v, hv, rv⟩ := q.get e
      have hv' : vs[i.toNat]? = some v := by simpa using hv
      have := (Array.getElem?_eq_some_iff.mp hv').1
      refine ⟨v, rv, by omega, by omega, .inl ⟨by omega, hv', seqIndex_pos (by omega) (by omega)⟩⟩
    · cases e
  · split at e
    · rename_i hn hb
      obtain ⟨v, hv, rv⟩ := q.get e
      refine ⟨v, rv, hb.1, by omega, .inr ⟨by omega, by omega, by rw [hl]; simpa using hv, seqIndex_neg (by omega) (by omega)⟩⟩
    · cases e
theorem sim_Subscript {G : Gd} {k : Nat} {sc : Scope} {value slice : Expr} {pos : Pos} {f g : AEnv → Res Bv} (hl : SimB G k sc value f) (hr : SimB G k sc slice g) (hs : ∀ o i, subscripted slice false o i = operate [o, i] (getItem o i)) :
    Sim G k sc (.Subscript value slice pos) (eOp2 idxI f g) := by
  intro cx ok ρ S s rel
  show Does G cx sc true (do let a ← eval value cx.env; let b ← holding [a] (eval slice cx.env); standAt pos; subscriptTail value slice a b) S s _ _
  refine does_two (K := fun x y ρ₂ => match idxI x y with | some t => .ok t ρ₂ | none => .stuck) hl hr ok rel fun ρ' S' h' tk v w x y rel' rx ry => ?_
  refine Does.standAt ?_
  split
  · rename_i t ht
    unfold idxI at ht
    intro Q E out
    split at ht
    · rename_i ds i
      obtain ⟨d, hd, rfl⟩ := Option.map_eq_some_iff.mp ht
      obtain ⟨a, o, vs, n, rfl, h1, h2, h3, q⟩ := rx.tup
      obtain ⟨u, rfl⟩ := ry.int
      obtain ⟨y, rv, b1, b2, hy⟩ := idxD_get q hd
      have it : IsTup h' a vs := ⟨o, h1, h2, n, h3⟩
      have fin := out y h' tk S' rel' rv (Ext.refl ..) fun _ => VarSame.refl _ _
      refine tail_any (s := { s with heap := h', toks := tk }) it.typeIs slot_tuple_getitem.lookup ?_ (hs _ _)
      rcases hy with ⟨_, e1, e2⟩ | ⟨_, _, e1, e2⟩
      · exact getItem_tuple it b1 b2 e2 e1 fin
      · exact getItem_tuple it b1 b2 e2 e1 fin
    · rename_i ds i
      obtain ⟨d, hd, rfl⟩ := Option.map_eq_some_iff.mp ht
      obtain ⟨a, o, vs, n, rfl, h1, h2, h3, q⟩ := rx.list
      obtain ⟨u, rfl⟩ := ry.int
      obtain ⟨y, rv, b1, b2, hy⟩ := idxD_get q hd
      have it : h'.IsList a vs := ⟨o, h1, h2, n, h3⟩
      have fin := out y h' tk S' rel' rv (Ext.refl ..) fun _ => VarSame.refl _ _
      refine tail_any (s := { s with heap := h', toks := tk }) it.typeIs slot_list_getitem.lookup ?_ (hs _ _)
      rcases hy with ⟨e0, e1, _⟩ | ⟨e0, e0', e1, _⟩
      · exact wpAny_getItem_list it e0 b2 e1 fin
      · exact wpAny_getItem_list_neg it e0 e0' b1 e1 fin
    · cases ht
  · exact Does.stuck
noncomputable def cutD (ds : List D) (lo hi : Option Int) : List D := (ds.drop (lo.elim 0 (clipAt ds.length))).take (hi.elim ds.length (clipAt ds.length) - lo.elim 0 (clipAt ds.length))
noncomputable def sliceI (x : D) (lo hi : Option Int) : Option T := match x with
  | .tup ds => if ds.length ≤ 1000000 then some (.sh (.tup (cutD ds lo hi))) else none
  | .list ds => if ds.length ≤ 1000000 then some (.ow true (.list (cutD ds lo hi))) else none
  | _ => none
noncomputable def SimP (G : Gd) (k : Nat) (sc : Scope) (e : Option Expr) (f : AEnv → Res (Option Int)) : Prop :=
  ∀ cx, CxOk G cx sc k → ∀ ρ S s, Rel G cx sc ρ S s.heap → Does G cx sc true (evalPart e cx.env) S s (fun _ _ v b => IsPart v b) (f ρ)
noncomputable def eNoPart : AEnv → Res (Option Int) := fun ρ => .ok none ρ
noncomputable def ePart (f : AEnv → Res Bv) : AEnv → Res (Option Int) := fun ρ => (f ρ).bind fun a ρ₁ => match a.get ρ₁ with
  | some (.int i) => .ok (some i) ρ₁
  | _ => .stuck
theorem simP_none {G : Gd} {k : Nat} {sc : Scope} : SimP G k sc none eNoPart := fun _ _ _ _ _ r => Does.pure r .none
theorem simP_some {G : Gd} {k : Nat} {sc : Scope} {e : Expr} {f : AEnv → Res Bv} (h : SimB G k sc e f) : SimP G k sc (some e) (ePart f) := by
  intro cx ok ρ S s r Q E out
  refine h cx ok ρ S s r Q E ?_
  unfold ePart at out
  cases hf : f ρ with
  | stuck => rw [hf] at out; exact out
  | exc C ρ' => rw [hf] at out; exact out
  | ok a ρ' =>
    rw [hf] at out
    simp only [Res.bind] at out
    intro v h' tk S' rel j x vs
    split at out
    · rename_i i hi
      obtain ⟨t, rfl⟩ := (BVal.rb j rel hi).int
      exact out _ h' tk S' rel (.int i t) x vs
    · exact out.elim
theorem adjust_plain (lo hi : Option Int) (n : Nat) : Builtin.Slice.sliceAdjust lo hi 1 (n : Int) = (((lo.elim 0 (clipAt n) : Nat) : Int), ((hi.elim n (clipAt n) : Nat) : Int)) := by
  have h1 : ¬ ((1 : Int) < 0) := by omega
  unfold Builtin.Slice.sliceAdjust
  have clip : ∀ v : Int, (if v < 0 then max (v + (n : Int)) 0 else min v (n : Int)) = ((clipAt n v : Nat) : Int) := fun v => by
    rw [clipAt_cast]; split <;> omega
  simp only [h1, if_false, clip]
  cases lo <;> cases hi <;> simp
theorem places_plain (a b : Nat) : Builtin.Slice.slicePlaces (a : Int) (b : Int) 1 = b - a := by
  unfold Builtin.Slice.slicePlaces
  have h1 : (1 : Int) > 0 := by omega
  simp only [h1, if_true, Int.ediv_one]
  split <;> omega
section
variable {prog : Program} {w : World} {A : Around} {E : Value → Shared → Prop} {s : Shared}
theorem slicePart_any {v : Value} {p : Option Int} {Q : Option Int → Shared → Prop} (hv : IsPart v p) (h : Q p s) : wpAny (model prog w) A (Builtin.Slice.slicePartIndex v) Q E s := by
  cases hv with
  | none => exact slicePart_none h
  | int i t => exact slicePart_int h
theorem sliceApplied_plain {sl : Addr} {vl vu : Value} {lo hi : Option Int} {n : Nat} {Q : Int × Int × Nat → Shared → Prop} (hs : s.heap.IsSliceOf sl vl vu .none) (pl : IsPart vl lo) (pu : IsPart vu hi)
    (h : Q (((lo.elim 0 (clipAt n) : Nat) : Int), 1, hi.elim n (clipAt n) - lo.elim 0 (clipAt n)) s) :
    wpAny (model prog w) A (Builtin.Slice.sliceApplied (.ref sl) (pure (n : Int))) Q E s := by
  obtain ⟨os, hos, hcs, hds⟩ := id hs
  unfold Builtin.Slice.sliceApplied Builtin.Slice.sliceFields
  refine wpAny_bind (wpAny_bind (wpAny_field hos hds (x := vl) rfl (wpAny_bind (wpAny_field hos hds (x := vu) rfl (wpAny_bind (wpAny_field hos hds (x := .none) rfl (wpAny_pure ?_)))))))
  refine wpAny_bind (slicePart_none ?_)
  show wpAny _ _ (if ((1 : Int) == 0) = true then _ else _) _ _ s
  rw [if_neg (by decide)]
  refine wpAny_bind (slicePart_any pl (wpAny_bind (slicePart_any pu (wpAny_bind (wpAny_pure ?_)))))
  show wpAny _ _ (match Builtin.Slice.sliceAdjust lo hi 1 (n : Int) with | (lo, hi) => pure (lo, (1 : Int), Builtin.Slice.slicePlaces lo hi 1)) _ _ s
  rw [adjust_plain]
  show wpAny _ _ (pure (_, (1 : Int), Builtin.Slice.slicePlaces _ _ 1)) _ _ s
  rw [places_plain]
  exact wpAny_pure h
theorem pick_plain (xs : Array Value) (a k : Nat) : ((List.range k).filterMap fun (j : Nat) => xs[((a : Int) + (j : Int) * 1).toNat]?).toArray = ((xs.toList.drop a).take k).toArray := by
  have e : (fun (k : Nat) => xs[((a : Int) + (k : Int) * 1).toNat]?) = fun k => xs[a + k]? := by
    funext k
    have : ((a : Int) + (k : Int) * 1).toNat = a + k := by omega
    rw [this]
  rw [e]
  have := pick_run xs a k
  rw [List.filterMap_map] at this
  have e2 : ((fun x => xs[x]?) ∘ fun x => a + x) = fun k => xs[a + k]? := rfl
  rw [e2] at this
  rw [this]
theorem getItem_tuple_slice {t sl : Addr} {items : Array Value} {vl vu : Value} {lo hi : Option Int} {Q : Value → Shared → Prop} (ht : IsTup s.heap t items) (hs : s.heap.IsSliceOf sl vl vu .none) (pl : IsPart vl lo) (pu : IsPart vu hi)
    (h0 : (items.toList.drop (lo.elim 0 (clipAt items.size))).take (hi.elim items.size (clipAt items.size) - lo.elim 0 (clipAt items.size)) = items.toList → Q (.ref t) s)
    (h : Q (.ref s.heap.objs.size) { s with heap := s.heap.push { cls := .type "tuple", data := .seq ((items.toList.drop (lo.elim 0 (clipAt items.size))).take (hi.elim items.size (clipAt items.size) - lo.elim 0 (clipAt items.size))).toArray } })
    (hsz : items.size ≤ sizeLine) : wpAny (model prog w) A (getItem (.ref t) (.ref sl)) Q E s := by
  have hdrop : sizeOk (.seq ((items.toList.drop (lo.elim 0 (clipAt items.size))).take (hi.elim items.size (clipAt items.size) - lo.elim 0 (clipAt items.size))).toArray) := by
    show _ ≤ sizeLine
    rw [List.size_toArray, List.length_take, List.length_drop, Array.length_toList]
    omega
  obtain ⟨os, hos, hcs, hds⟩ := id hs
  have hTs : s.TypeIs (.ref sl) "slice" := ⟨os, hos, hcs⟩
  unfold getItem
  try with_reducible refine wpAny_holding ?_
  first | refine wpAny_bind (wpAny_pure ?_) | skip
  refine wpAny_bind (wpAny_sequenceKey ht.typeIs (by decide) ?_)
  refine wpAny_bind (wpAny_callSpecial?_slot (name := Str.ofString "__getitem__") ht.typeIs slot_tuple_getitem
    (wpAny_call_entry slot_tuple_getitem ht.typeIs entry_tuple_getitem ?_ (args_tuple_getitem _ _)))
  show wpAny _ _ (Builtin.Tuple.tupleItemsOf (.ref t) >>= _) _ _ s
  refine wpAny_bind (tupleItemsOf_ ht ?_)
  refine wpAny_bind (wpAny_typeOf hTs ?_)
  rw [if_pos (by decide)]
  refine wpAny_bind (sliceApplied_plain hs pl pu ?_)
  generalize ha : (lo.elim 0 (clipAt items.size) : Nat) = a at *
  generalize hk : hi.elim items.size (clipAt items.size) - a = k at *
  show wpAny _ _ (if ((a : Int) == 0 && (1 : Int) == 1 && k == items.size) = true then _ else _) _ _ s
  by_cases hw : ((a : Int) == 0 && (1 : Int) == 1 && k == items.size) = true
  · rw [if_pos hw]
    simp only [Bool.and_eq_true, beq_iff_eq] at hw
    have ha0 : a = 0 := by omega
    have hq : Q (.ref t) s := h0 (by rw [ha0, hw.2, List.drop_zero]; exact List.take_of_length_le (by simp))
    obtain ⟨o, ho, hc, n, hd⟩ := id ht
    refine wpAny_bind (m := Builtin.Tuple.tupleIsExact _) ?_
    unfold Builtin.Tuple.tupleIsExact
    refine wpAny_bind (wpAny_typeOf ht.typeIs (wpAny_pure ?_))
    rw [if_pos (by decide)]
    refine wpAny_bind (wpAny_rule ?_)
    exact wpAny_pure ⟨_, rfl, wpAny_pure hq⟩
  · rw [if_neg hw, pick_plain items a k]
    first
      | exact wpAny_bind (m := Builtin.Tuple.tupleExact _) (wpAny_newObj_type (wpAny_pure ⟨_, rfl, wpAny_pure h⟩) hdrop)
      | exact wpAny_bind (m := Builtin.Tuple.tupleExact _) (wpAny_newObj_type (wpAny_bind (wpAny_pure (wpAny_pure ⟨_, rfl, wpAny_pure h⟩))) hdrop)
      | exact wpAny_bind (wpAny_bind (m := Builtin.Tuple.tupleExact _) (wpAny_newObj_type (wpAny_pure (wpAny_pure ⟨_, rfl, wpAny_pure h⟩)) hdrop))
      | exact wpAny_bind (wpAny_bind (m := Builtin.Tuple.tupleExact _) (wpAny_newObj_type (wpAny_pure ⟨_, rfl, wpAny_pure h⟩) hdrop))
end
noncomputable def eSlice (f : AEnv → Res Bv) (g h : AEnv → Res (Option Int)) : AEnv → Res T := fun ρ => (f ρ).bind fun a ρ₁ => (g ρ₁).bind fun lo ρ₂ => (h ρ₂).bind fun hi ρ₃ => match a.get ρ₃ with
  | some x => (match sliceI x lo hi with | some t => .ok t ρ₃ | none => .stuck)
  | none => .stuck
theorem RVs.cut {S : Addr → Prop} {h : Heap} {vs : Array Value} {ds : List D} (q : RVs S h vs.toList ds) (lo hi : Option Int) :
    RVs S h ((vs.toList.drop (lo.elim 0 (clipAt vs.size))).take (hi.elim vs.size (clipAt vs.size) - lo.elim 0 (clipAt vs.size))) (cutD ds lo hi) := by
  have hl : vs.size = ds.length := by rw [← q.length]; simp
  unfold cutD
  rw [hl]
  exact (q.drop _).take _
theorem sim_Slice {G : Gd} {k : Nat} {sc : Scope} {value : Expr} {lower upper : Option Expr} {p pos : Pos} {f : AEnv → Res Bv} {g h : AEnv → Res (Option Int)} (hv : SimB G k sc value f) (hl : SimP G k sc lower g) (hu : SimP G k sc upper h) :
    Sim G k sc (.Subscript value (.Slice lower upper none p) pos) (eSlice f g h) := by
  intro cx ok ρ S s rel
  show Does G cx sc true (do let a ← eval value cx.env; let b ← holding [a] (eval (.Slice lower upper none p) cx.env); standAt pos; subscriptTail value (.Slice lower upper none p) a b) S s _ _
  unfold eSlice
  refine Does.bind (hv cx ok ρ S s rel) fun a ρ₁ va h₁ t₁ S₁ _ r₁ ja x₁ v₁ => ?_
  intro Q E out
  refine wpAny_bind (wpAny_holding (wpAny_Slice ?_))
  refine hl cx ok ρ₁ S₁ { s with heap := h₁, toks := t₁ } r₁ _ _ ?_
  cases hg : g ρ₁ with
  | stuck => rw [hg] at out; exact out.elim
  | exc C ρ₂ => rw [hg] at out; exact out
  | ok lo ρ₂ =>
    rw [hg] at out
    simp only [Res.bind] at out ⊢
    intro vl h₀ t₀ S₀ r₀ pl x₀ v₀
    refine hu cx ok ρ₂ S₀ { s with heap := h₀, toks := t₀ } r₀ _ _ ?_
    cases hh : h ρ₂ with
    | stuck => rw [hh] at out; exact out.elim
    | exc C ρ₃ => rw [hh] at out; intro e h₂ t₂ S₂ r₂ f₂ x₂; exact out e h₂ t₂ S₂ r₂ (f₂.back x₀) (x₀.trans x₂)
    | ok hi ρ₃ =>
      rw [hh] at out
      simp only at out
      intro vu h₂ t₂ S₂ r₂ pu x₂' v₂'
      have x₂ := x₀.trans x₂'
      have v₂ : true = true → VarSame cx.env h₁ h₂ := fun q => (v₀ q).trans (v₂' q)
      rw [evalPart_none]
      refine wpAny_pure ?_
      refine wpAny_bind (wpAny_standAt ?_)
      have ja₂ : BVal cx sc S₂ h₂ va a := BVal.ext ja x₂ (v₂ rfl)
      split at out
      · rename_i x hx
        have rx := ja₂.rb r₂ hx
        split at out
        · rename_i t ht
          unfold sliceI at ht
          have hsl : subscripted (.Slice lower upper none p) false va (.ref h₂.objs.size) = operate [.ref h₂.objs.size, va] (getItem va (.ref h₂.objs.size)) := rfl
          split at ht
          · rename_i ds
            split at ht
            · rename_i hlen
              cases ht
              obtain ⟨a', o, vs, n, rfl, h1, h2, h3, q⟩ := rx.tup
              have hls : vs.size = ds.length := by rw [← q.length]; simp
              have it : IsTup (h₂.push { cls := .type "slice", data := .fields #[vl, vu, .none] }) a' vs := ⟨o, Heap.get?_push_of_some _ h1, h2, n, h3⟩
              refine tail_any (s := { s with heap := h₂.push { cls := .type "slice", data := .fields #[vl, vu, .none] }, toks := t₂ }) it.typeIs slot_tuple_getitem.lookup ?_ hsl
              have rp := Rel.push (s := { s with heap := h₂ }) r₂ { cls := .type "slice", data := .fields #[vl, vu, .none] }
              have xp : Ext S₂ h₂ S₂ _ := ext_push { cls := .type "slice", data := .fields #[vl, vu, .none] }
              refine getItem_tuple_slice it (Heap.IsSliceOf.new ..) pl pu (fun he => ?_) ?_ (by rw [hls, sizeLine_eq]; omega)
              · refine out _ _ t₂ S₂ rp ?_ (x₂.trans xp) fun q => (v₂ q).trans (r₂.same (kp_push _))
                have := q.cut lo hi
                rw [he] at this
                exact .tup (Heap.get?_push_of_some _ h1) h2 h3 (this.ext xp)
              · refine out _ _ t₂ S₂ (Rel.push (s := { s with heap := h₂.push _ }) rp _) ?_ ((x₂.trans xp).trans (ext_push _)) fun q => ((v₂ q).trans (r₂.same (kp_push _))).trans (rp.same (kp_push _))
                exact .tup (Heap.get?_push_size _ rfl) rfl rfl (by simpa using ((q.cut lo hi).ext xp).ext (ext_push _))
            · cases ht
          · rename_i ds
            split at ht
            · rename_i hlen
              cases ht
              obtain ⟨a', o, vs, n, rfl, h1, h2, h3, q⟩ := rx.list
              have hls : vs.size = ds.length := by rw [← q.length]; simp
              have it : (h₂.push { cls := .type "slice", data := .fields #[vl, vu, .none] }).IsList a' vs := ⟨o, Heap.get?_push_of_some _ h1, h2, n, h3⟩
              refine tail_any (s := { s with heap := h₂.push { cls := .type "slice", data := .fields #[vl, vu, .none] }, toks := t₂ }) it.typeIs slot_list_getitem.lookup ?_ hsl
              have rp := Rel.push (s := { s with heap := h₂ }) r₂ { cls := .type "slice", data := .fields #[vl, vu, .none] }
              have xp : Ext S₂ h₂ S₂ _ := ext_push { cls := .type "slice", data := .fields #[vl, vu, .none] }
              refine wpAny_getItem_list_slice it (Heap.IsSliceOf.new ..) pl pu .none (by simp) ?_ (by rw [hls, sizeLine_eq]; omega)
              refine out _ _ t₂ S₂ (Rel.push (s := { s with heap := h₂.push _ }) rp _) ?_ ((x₂.trans xp).trans (ext_push _)) fun q => ((v₂ q).trans (r₂.same (kp_push _))).trans (rp.same (kp_push _))
              refine fresh_list (s := { s with heap := h₂.push _ }) rp (kp_push _) (Heap.get?_none_of_le (Nat.le_refl _)) (Heap.get?_push_size _ rfl) ?_
              rw [slicePick_plain]
              simpa using ((q.cut lo hi).ext xp).ext (ext_push _)
            · cases ht
          · cases ht
        · exact out.elim
      · exact out.elim
noncomputable def addD : D → D → Option T
  | .int a, .int b => some (.sh (.int (a + b)))
  | .list xs, .list ys => if xs.length + ys.length ≤ 1000000 then some (.ow true (.list (xs ++ ys))) else none
  | .tup xs, .tup ys => if xs.length + ys.length ≤ 1000000 then some (.sh (.tup (xs ++ ys))) else none
  | _, _ => none
theorem RVs.nil_iff {S : Addr → Prop} {h : Heap} {vs : List Value} {ds : List D} (q : RVs S h vs ds) : vs = [] ↔ ds = [] := by
  have := q.length
  constructor
  · rintro rfl; exact List.length_eq_zero_iff.mp this.symm
  · rintro rfl; exact List.length_eq_zero_iff.mp this
theorem op_addD {G : Gd} : Op2 G (binaryOp .Add) addD := by
  intro cx sc ok ρ S s v w x y t rel rx ry e Q E out
  cases x with
  | int a =>
   cases y with
   | int b =>
    obtain ⟨_, rfl⟩ := rx.int; obtain ⟨_, rfl⟩ := ry.int; cases e
    exact PySem.P.add_int (out_sh out rel (.int _ _))
   | _ => exact nn e
  | list xs =>
   cases y with
   | list ys =>
    · obtain ⟨hl, e⟩ := ifs e
      cases e
      obtain ⟨a, ⟨cls, dd, data, sl⟩, vs, n, rfl, h1, h2, h3, q1⟩ := rx.list
      obtain ⟨b, ⟨cls', dd', data', sl'⟩, ws, m, rfl, g1, g2, g3, q2⟩ := ry.list
      simp only at h2 h3 g2 g3
      subst h2 h3 g2 g3
      have l1 : vs.size = xs.length := by rw [← q1.length]; simp
      have l2 : ws.size = ys.length := by rw [← q2.length]; simp
      refine concat_meets ⟨_, h1, rfl⟩ ⟨_, g1, rfl⟩ noFill_list_add seq_list_add PySem.F.slot_list_add PySem.F.entry_list_add (PySem.F.args_list_add_2 _ _) (list_addW a b vs ws n m dd dd' sl sl' (by rw [l1, l2, sizeLine_eq]; omega)) ⟨h1, g1, ?_⟩
      refine out _ _ s.toks S (rel.push _) ?_ (ext_push _) fun _ => rel.same (kp_push _)
      refine fresh_list rel (kp_push _) (Heap.get?_none_of_le (Nat.le_refl _)) (Heap.get?_push_size _ rfl) ?_
      rw [Array.toList_append]
      exact (q2.append q1).ext (ext_push _)
   | _ => exact nn e
  | tup xs =>
   cases y with
   | tup ys =>
    · obtain ⟨hl, e⟩ := ifs e
      cases e
      obtain ⟨a, ⟨cls, dd, data, sl⟩, vs, n, rfl, h1, h2, h3, q1⟩ := rx.tup
      obtain ⟨b, ⟨cls', dd', data', sl'⟩, ws, m, rfl, g1, g2, g3, q2⟩ := ry.tup
      simp only at h2 h3 g2 g3
      subst h2 h3 g2 g3
      have l1 : vs.size = xs.length := by rw [← q1.length]; simp
      have l2 : ws.size = ys.length := by rw [← q2.length]; simp
      by_cases c1 : vs.isEmpty = true
      · refine concat_meets ⟨_, h1, rfl⟩ ⟨_, g1, rfl⟩ noFill_tuple_add seq_tuple_add PySem.F.slot_tuple_add PySem.F.entry_tuple_add (PySem.F.args_tuple_add_2 _ _) (tuple_addW0 a b vs ws n m dd dd' sl sl' c1) ⟨h1, g1, ?_⟩
        have : xs = [] := (q1.nil_iff).mp (by simpa using c1)
        subst this
        exact out _ _ s.toks S rel (.tup g1 rfl rfl q2) (Ext.refl ..) fun _ => VarSame.refl _ _
      · by_cases c2 : ws.isEmpty = true
        · refine concat_meets ⟨_, h1, rfl⟩ ⟨_, g1, rfl⟩ noFill_tuple_add seq_tuple_add PySem.F.slot_tuple_add PySem.F.entry_tuple_add (PySem.F.args_tuple_add_2 _ _) (tuple_addW1 a b vs ws n m dd dd' sl sl' c1 c2) ⟨h1, g1, ?_⟩
          have : ys = [] := (q2.nil_iff).mp (by simpa using c2)
          subst this
          rw [List.append_nil] at out
          exact out _ _ s.toks S rel (.tup h1 rfl rfl q1) (Ext.refl ..) fun _ => VarSame.refl _ _
        · refine concat_meets ⟨_, h1, rfl⟩ ⟨_, g1, rfl⟩ noFill_tuple_add seq_tuple_add PySem.F.slot_tuple_add PySem.F.entry_tuple_add (PySem.F.args_tuple_add_2 _ _) (tuple_addW2 a b vs ws n m dd dd' sl sl' c1 c2 (by rw [l1, l2, sizeLine_eq]; omega)) ⟨h1, g1, ?_⟩
          refine out _ _ s.toks S (rel.push _) ?_ (ext_push _) fun _ => rel.same (kp_push _)
          refine .tup (Heap.get?_push_size _ rfl) rfl rfl ?_
          rw [Array.toList_append]
          exact (q2.append q1).ext (ext_push _)
   | _ => exact nn e
  | _ => exact nn e
noncomputable def mulD : D → D → Option T
  | .int a, .int b => if small a || small b then some (.sh (.int (a * b))) else none
  | .list [x], .int n => if 0 ≤ n ∧ n ≤ 1000000 then some (.ow true (.list (List.replicate n.toNat x))) else none
  | _, _ => none
theorem RVs.replicate {S : Addr → Prop} {h : Heap} {v : Value} {d : D} (q : RV S h v d) : ∀ (n : Nat), RVs S h (List.replicate n v) (List.replicate n d)
  | 0 => .nil
  | n + 1 => by rw [List.replicate_succ, List.replicate_succ]; exact .cons q (RVs.replicate q n)
theorem foldl_one (v : Value) : ∀ (n : Nat) (acc : Array Value), (List.foldl (fun x1 x2 => x1 ++ x2) acc (List.replicate n #[v])).toList = acc.toList ++ List.replicate n v
  | 0, acc => by simp
  | n + 1, acc => by
    rw [List.replicate_succ, List.foldl_cons, foldl_one v n]
    simp [List.replicate_succ]
theorem op_mulD {G : Gd} : Op2 G (binaryOp .Mult) mulD := by
  intro cx sc ok ρ S s v w x y t rel rx ry e
  cases x with
  | int a =>
   cases y with
   | int b => exact op_mul cx sc ok ρ S s v w _ _ t rel rx ry e
   | _ => exact nn e
  | list xs =>
   cases xs with
   | nil => exact nn e
   | cons d xs =>
   cases xs with
   | cons _ _ => exact nn e
   | nil =>
   cases y with
   | int n =>
    · obtain ⟨hn, e⟩ := ifs e
      cases e
      obtain ⟨a, ⟨cls, dd, data, sl⟩, vs, m, rfl, h1, h2, h3, q1⟩ := rx.list
      obtain ⟨u, rfl⟩ := ry.int
      simp only at h2 h3
      subst h2 h3
      intro Q E out
      have hone : ∃ v, vs = #[v] ∧ RV S s.heap v d := by
        obtain ⟨l⟩ := vs
        simp only at q1
        cases q1 with | cons q r => cases r; exact ⟨_, rfl, q⟩
      obtain ⟨v, rfl, qv⟩ := hone
      refine wpAny_binaryOp_repeat_ref (T := "list") (U := "int") (by decide) ⟨_, h1, rfl⟩ (fun s' => typeIs_int s' n u) noFill_list_mul F.fills_int_mul F.slot_int_rmul repeat_list F.slot_int_index.lookup
        (call_meets F.slot_int_rmul (typeIs_int s n u) F.entry_int_rmul (F.args_int_rmul_2 _ _) (lm_int_rmul_list_any n u a #[v] m dd sl)
          ⟨h1, rfl, ⟨_, h1, rfl⟩, call_meets F.slot_list_mul ⟨_, h1, rfl⟩ F.entry_list_mul (F.args_list_mul_2 _ _)
            (lm_list_mul_any a #[v] m dd sl n u (by simp [Builtin.List.listFitsIndex]; omega) (by simp; omega) (by simp [Builtin.List.listTooLong, sizeLine]; omega))
            ⟨h1, ?_⟩⟩)
      refine out _ _ s.toks S (rel.push _) ?_ (ext_push _) fun _ => rel.same (kp_push _)
      refine fresh_list rel (kp_push _) (Heap.get?_none_of_le (Nat.le_refl _)) (Heap.get?_push_size _ rfl) ?_
      rw [show (#[v] : Array Value).isEmpty = false from rfl]
      simp only [Bool.false_eq_true, if_false]
      rw [foldl_one]
      exact (RVs.replicate qv n.toNat).ext (ext_push _)
   | _ => exact nn e
  | _ => exact nn e
end Mine
end

section
set_option Elab.async false
set_option maxRecDepth 100000
namespace Mine
open PySem PyProof.Rows
section
variable {G : Gd}
noncomputable def one (F : D → Option T) : List D → Option T
  | [x] => F x
  | _ => none
theorem one_inv {F : D → Option T} {ds : List D} {t : T} (e : one F ds = some t) : ∃ x, ds = [x] ∧ F x = some t := by
  cases ds with
  | nil => exact nn e
  | cons x ds =>
    cases ds with
    | nil => exact ⟨x, rfl, e⟩
    | cons _ _ => exact nn e
noncomputable def lenD : D → Option T
  | .list ds => if ds.length ≤ 1000000 then some (.sh (.int ds.length)) else none
  | .tup ds => if ds.length ≤ 1000000 then some (.sh (.int ds.length)) else none
  | _ => none
noncomputable def lenI : List D → Option T := one lenD
theorem RBs.one {S : Addr → Prop} {h : Heap} {vs : List Value} {d : D} (q : RBs S h vs [d]) : ∃ v, vs = [v] ∧ RB S h v d := by
  cases q with | cons a b => cases b; exact ⟨_, rfl, a⟩
theorem RBs.two {S : Addr → Prop} {h : Heap} {vs : List Value} {d e : D} (q : RBs S h vs [d, e]) : ∃ v w, vs = [v, w] ∧ RB S h v d ∧ RB S h w e := by
  cases q with | cons a b => obtain ⟨w, rfl, r⟩ := b.one; exact ⟨_, _, rfl, a, r⟩
theorem op_len : OpN G (fun vs => call (.builtin "len") vs []) lenI := by
  intro cx sc ok ρ S s vs ds t rel q e Q E out
  obtain ⟨d, rfl, e⟩ := one_inv e
  cases d with
  | list ds =>
    obtain ⟨hl, e⟩ := ifs e
    cases e
    obtain ⟨v, rfl, r⟩ := q.one
    obtain ⟨a, o, us, n, rfl, h1, h2, h3, k⟩ := r.list
    have hs := k.length
    rw [Array.length_toList] at hs
    refine PyProof.Rows.len_list ⟨o, h1, h2, n, h3⟩ (by rw [hs]; omega) ?_
    rw [hs]
    exact out_sh out rel (.int _ _)
  | tup ds =>
    obtain ⟨hl, e⟩ := ifs e
    cases e
    obtain ⟨v, rfl, r⟩ := q.one
    obtain ⟨a, o, us, n, rfl, h1, h2, h3, k⟩ := r.tup
    have hs := k.length
    rw [Array.length_toList] at hs
    refine PyProof.Rows.len_tuple ⟨o, h1, h2, n, h3⟩ (by rw [hs]; omega) ?_
    rw [hs]
    exact out_sh out rel (.int _ _)
  | _ => exact nn e
noncomputable def rangeI : List D → Option T
  | [x] => (asI x).map fun n => .sh (.range 0 n 1)
  | [x, y] => (asI x).bind fun a => (asI y).map fun b => .sh (.range a b 1)
  | [x, y, z] => (asI x).bind fun a => (asI y).bind fun b => (asI z).bind fun c => if c ≠ 0 ∧ c.natAbs < 1073741824 then some (.sh (.range a b c)) else none
  | _ => none
theorem rangeI_inv {ds : List D} {t : T} (e : rangeI ds = some t) : (∃ n, ds = [.int n] ∧ t = .sh (.range 0 n 1)) ∨ (∃ n m, ds = [.int n, .int m] ∧ t = .sh (.range n m 1)) ∨ ∃ n m c, ds = [.int n, .int m, .int c] ∧ (c ≠ 0 ∧ c.natAbs < 1073741824) ∧ t = .sh (.range n m c) := by
  cases ds with
  | nil => exact nn e
  | cons x ds =>
    cases ds with
    | nil =>
      obtain ⟨n, h1, rfl⟩ := Option.map_eq_some_iff.mp e
      obtain rfl := asI_inv h1
      exact .inl ⟨n, rfl, rfl⟩
    | cons y ds =>
      cases ds with
      | nil =>
        obtain ⟨n, h1, e⟩ := Option.bind_eq_some_iff.mp e
        obtain ⟨m, h2, rfl⟩ := Option.map_eq_some_iff.mp e
        obtain rfl := asI_inv h1
        obtain rfl := asI_inv h2
        exact .inr (.inl ⟨n, m, rfl, rfl⟩)
      | cons z ds =>
        cases ds with
        | nil =>
          obtain ⟨n, h1, e⟩ := Option.bind_eq_some_iff.mp e
          obtain ⟨m, h2, e⟩ := Option.bind_eq_some_iff.mp e
          obtain ⟨c, h3, e⟩ := Option.bind_eq_some_iff.mp e
          obtain ⟨hc, e4⟩ := ifs (c := c ≠ 0 ∧ c.natAbs < 1073741824) (a := some (T.sh (.range n m c))) e
          obtain rfl := asI_inv h1
          obtain rfl := asI_inv h2
          obtain rfl := asI_inv h3
          cases e4
          exact .inr (.inr ⟨n, m, c, rfl, hc, rfl⟩)
        | cons _ _ => exact nn e
theorem RBs.three {S : Addr → Prop} {h : Heap} {vs : List Value} {d e f : D} (q : RBs S h vs [d, e, f]) : ∃ v w u, vs = [v, w, u] ∧ RB S h v d ∧ RB S h w e ∧ RB S h u f := by
  cases q with | cons a b => obtain ⟨w, u, rfl, r, r'⟩ := b.two; exact ⟨_, _, _, rfl, a, r, r'⟩
theorem op_range : OpN G (fun vs => call (.type "range") vs []) rangeI := by
  intro cx sc ok ρ S s vs ds t rel q e Q E out
  rcases rangeI_inv e with ⟨n, rfl, rfl⟩ | ⟨n, m, rfl, rfl⟩ | ⟨n, m, c, rfl, hc, rfl⟩
  · skip
    obtain ⟨v, rfl, r⟩ := q.one
    obtain ⟨u, rfl⟩ := r.int
    exact call_range_1 (out _ _ _ S (rel.push _) (.range (IsRange.new ..)) (ext_push _) fun _ => rel.same (kp_push _))
  · skip
    obtain ⟨v, w, rfl, r, r'⟩ := q.two
    obtain ⟨u, rfl⟩ := r.int
    obtain ⟨u', rfl⟩ := r'.int
    exact call_range_2 (out _ _ _ S (rel.push _) (.range (IsRange.new ..)) (ext_push _) fun _ => rel.same (kp_push _))
  · skip
    · obtain ⟨v, w, x, rfl, r, r', r''⟩ := q.three
      obtain ⟨u, rfl⟩ := r.int
      obtain ⟨u', rfl⟩ := r'.int
      obtain ⟨u'', rfl⟩ := r''.int
      exact call_range_3 hc.1 (out _ _ _ S (rel.push _) (.range (IsRange.new ..)) (ext_push _) fun _ => rel.same (kp_push _)) (.inl (PyProof.noPylong_small hc.2))
end
noncomputable def rangeN (lo hi st : Int) : Nat := (Builtin.Range.rangeSize lo hi st).toNat
noncomputable def rangeL (lo hi st : Int) : List D := (List.range (rangeN lo hi st)).map fun (i : Nat) => .int (lo + i * st)
noncomputable def rangeFit (lo hi st : Int) : Bool := Builtin.Range.small lo hi st && decide (Builtin.Range.rangeSize lo hi st ≤ 1000000) && decide (0 ≤ Builtin.Range.rangeSize lo hi st)
theorem rangeFit_n {lo hi st : Int} (h : rangeFit lo hi st = true) : Builtin.Range.small lo hi st = true ∧ Builtin.Range.rangeSize lo hi st = (rangeN lo hi st : Int) ∧ rangeN lo hi st ≤ 1000000 := by
  unfold rangeFit at h
  simp only [Bool.and_eq_true, decide_eq_true_eq] at h
  refine ⟨h.1.1, ?_, ?_⟩ <;> unfold rangeN <;> omega
theorem RVs.of_get {S : Addr → Prop} {h : Heap} : ∀ {vs : List Value} {ds : List D}, vs.length = ds.length → (∀ (j : Nat) v, vs[j]? = some v → ∃ d, ds[j]? = some d ∧ RV S h v d) → RVs S h vs ds
  | [], [], _, _ => .nil
  | [], _ :: _, e, _ => by simp at e
  | _ :: _, [], e, _ => by simp at e
  | v :: vs, d :: ds, e, k => by
    obtain ⟨d', hd, q⟩ := k 0 v rfl
    simp at hd; subst hd
    exact .cons q (RVs.of_get (by simpa using e) fun j w hw => by simpa using k (j + 1) w (by simpa using hw))
theorem range_items {S : Addr → Prop} {h : Heap} {lo st : Int} {n : Nat} {acc : Array Value} (q : ItemsOf (fun i v => ∃ t, v = .int (lo + i * st) t) acc n) : RVs S h acc.toList ((List.range n).map fun (i : Nat) => D.int (lo + i * st)) := by
  refine RVs.of_get (by simp [q.1]) fun j v hv => ?_
  have hv' : acc[j]? = some v := by simpa using hv
  obtain ⟨t, rfl⟩ := q.2 j v hv'
  have hj : j < n := by
    have := (Array.getElem?_eq_some_iff.mp hv').1
    rw [q.1] at this; exact this
  exact ⟨.int (lo + j * st), by simp [hj], .int _ _⟩
section
variable {prog : Program} {w : World} {A : Around} {E : Value → Shared → Prop} {s : Shared}
theorem wpAny_collect_range {Q : List Value → Shared → Prop} {r : Addr} {a b c : Int} {t u v : Tok} {n : Nat} (hh : A.handled = none) (hr : IsRange s.heap r a b c t u v) (hsmall : Builtin.Range.small a b c = true)
    (hn : Builtin.Range.rangeSize a b c = n) (hlen : n ≤ 2 ^ 24)
    (hQ : ∀ h' tk (acc : Array Value), (∀ b o', s.heap.get? b = some o' → h'.get? b = some o') → ItemsOf (fun i v => ∃ t, v = .int (a + i * c) t) acc n → Q acc.toList { s with heap := h', toks := tk }) :
    wpAny (model prog w) A (collect (.ref r)) Q E s := by
  unfold collect
  refine wpAny_bind (wpAny_runValue (codeAny_builtin F.entry_proto_collect ?_))
  rw [Around.under_plainId F.plain_proto_collect _]
  show wpAny _ A.in1 (newList [] >>= fun l => again (.builtin "list.__iadd__" ⟨[l, .ref r], []⟩)) _ _ s
  refine wpAny_bind (wpAny_newObj_type ?_)
  refine wpAny_pure ⟨plainId_quiet F.plain_list_iadd _, codeAny_builtin F.entry_list_iadd ?_⟩
  rw [Around.under_plainId F.plain_list_iadd _]
  show wpAny _ A.in1 (Builtin.List.listExtendWith (.ref s.heap.objs.size) (.ref r) (.ref s.heap.objs.size)) _ _ _
  have hS : (s.heap.push { cls := .type "list", data := .seq ([] : List Value).toArray }).get? s.heap.objs.size = some { cls := .type "list", data := .seq #[] 0 } := Heap.get?_push_size _ rfl
  have fin' : ∀ h' tk (acc : Array Value) c', (∀ b o, b ≠ s.heap.objs.size → (s.heap.push { cls := .type "list", data := .seq ([] : List Value).toArray }).get? b = some o → h'.get? b = some o) → h'.get? s.heap.objs.size = some { cls := .type "list", dict := none, data := .seq acc c', slots := #[] } → ItemsOf (fun i v => ∃ t, v = .int (a + i * c) t) acc n → wpAny (model prog w) A (match Value.ref s.heap.objs.size with
      | Value.ref a => do
        match (← load a).data with
          | Data.seq xs _ => pure xs.toList
          | _ => unsupported "internal:collect"
      | _ => unsupported "internal:collect") Q E { s with heap := h', toks := tk } := by
    intro h' tk acc c' hk hS' hacc
    show wpAny _ A (load s.heap.objs.size >>= _) _ _ _
    refine wpAny_bind (wpAny_load hS' ?_)
    refine wpAny_pure ?_
    exact hQ _ _ _ (fun b o' hb => hk b o' (Nat.ne_of_lt (Heap.lt_size hb)) (Heap.get?_push_of_some _ hb)) hacc
  refine wpAny_mono (wpAny_extend_range (A := A) (R := fun r s' => ∃ h' tk acc c', (∀ b o, b ≠ s.heap.objs.size → (s.heap.push { cls := .type "list", data := .seq ([] : List Value).toArray }).get? b = some o → h'.get? b = some o) ∧ h'.get? s.heap.objs.size = some { cls := .type "list", dict := none, data := .seq acc c', slots := #[] } ∧ ItemsOf (fun i v => ∃ t, v = .int (a + i * c) t) acc n ∧ r = .ok (.ret (.ref s.heap.objs.size)) ∧ s' = { s with heap := h', toks := tk })
    (s := { s with heap := s.heap.push { cls := .type "list", data := .seq ([] : List Value).toArray } }) hh (Heap.get?_push_of_some _ hr) hsmall hn hlen _ _ 0 hS fun h' tk acc c' hk hS' hacc => ⟨h', tk, acc, c', hk, hS', hacc, rfl, rfl⟩) (fun fin s' h => ?_) (fun e s' h => ?_)
  · cases fin with
    | done f =>
      obtain ⟨h', tk, acc, c', hk, hS', hacc, e, rfl⟩ := h
      cases e
      exact fin' h' tk acc c' hk hS' hacc
    | again c' => exact ⟨h.1, codeAny_mono h.2 fun r s'' hr => by obtain ⟨h', tk, acc, c', hk, hS', hacc, rfl, rfl⟩ := hr; exact fin' h' tk acc c' hk hS' hacc⟩
  · obtain ⟨_, _, _, _, _, _, _, e, _⟩ := h; cases e
end
open AutoSeq1 (wpAny_loadPart') in
theorem meets_tuple_new_range {r : Addr} {a b c : Int} {t u v : Tok} {n : Nat} (hsmall : Builtin.Range.small a b c = true) (hn : Builtin.Range.rangeSize a b c = n) (hlen : n ≤ 2 ^ 24) :
    Meets (Builtin.«tuple.__new__» ⟨[.type "tuple", .ref r], []⟩)
      (fun A R s => A.handled = none ∧ IsRange s.heap r a b c t u v ∧ ∀ (h' : Heap) (tk : Nat) (acc : Array Value), (∀ b o', s.heap.get? b = some o' → h'.get? b = some o') → ItemsOf (fun i v => ∃ t, v = .int (a + i * c) t) acc n → R (.ok (.ret (.ref h'.objs.size))) { s with heap := h'.push { cls := .type "tuple", data := .seq acc }, toks := tk }) :=
  .of_wp fun prog w A R s h => by
    obtain ⟨hp, g, d, tk, os⟩ := s; obtain ⟨hh, ht, h⟩ := h
    have hsub := sub_tuple_self
    have hinit := init_tuple_lookup
    have hmh := madeHere_tuple
    have hT : Shared.TypeIs ⟨hp, g, d, tk, os⟩ (.ref r) "range" := ⟨_, ht, rfl⟩
    wp_walk using wpAny_loadPart' ht, wpAny_typeOf hT, wpAny_collect_range (A := A.in1) hh ht hsmall hn hlen
    intro h' tk' acc hk hacc
    show wpAny _ _ (Builtin.Tuple.tupleExact acc.toList.toArray >>= fun v => ret v) _ _ _
    unfold Builtin.Tuple.tupleExact
    refine wpAny_bind (wpAny_newObj_type ?_ (by show acc.toList.toArray.size ≤ sizeLine; have := hacc.1; simp only [Array.toArray_toList]; rw [sizeLine_eq]; omega))
    refine wpAny_pure ⟨_, rfl, ?_⟩
    have e : acc.toList.toArray = acc := by simp
    rw [e]
    exact h h' tk' acc hk hacc
theorem call_tuple_range {prog : Program} {w : World} {A : Around} {E : Value → Shared → Prop} {s : Shared} {r : Addr} {a b c : Int} {t u v : Tok} {n : Nat} {Q : Value → Shared → Prop} (hh : A.handled = none) (hr : IsRange s.heap r a b c t u v) (hsmall : Builtin.Range.small a b c = true)
    (hn : Builtin.Range.rangeSize a b c = n) (hlen : n ≤ 2 ^ 24)
    (h : ∀ (h' : Heap) (tk : Nat) (acc : Array Value), (∀ b o', s.heap.get? b = some o' → h'.get? b = some o') → ItemsOf (fun i v => ∃ t, v = .int (a + i * c) t) acc n → Q (.ref h'.objs.size) { s with heap := h'.push { cls := .type "tuple", data := .seq acc }, toks := tk }) :
    wpAny (model prog w) A (call (.type "tuple") [.ref r]) Q E s :=
  callType_new F.called_tuple (by decide) (F.typeCall_tuple_1 _) (F.newCall_tuple_1 _) (fun obj => F.args_object_init_2 obj _) F.entry_tuple_new
    (meets_tuple_new_range hsmall hn hlen) ⟨hh, hr, fun h' tk acc hk hacc => ⟨⟨_, Heap.get?_push_size _ rfl, rfl⟩, h h' tk acc hk hacc⟩⟩
section
variable {G : Gd}
noncomputable def listD : D → Option T
  | .list ds => if ds.length ≤ 1000000 then some (.ow true (.list ds)) else none
  | .tup ds => if ds.length ≤ 1000000 then some (.ow true (.list ds)) else none
  | .range lo hi st => if rangeFit lo hi st then some (.ow true (.list (rangeL lo hi st))) else none
  | _ => none
noncomputable def listI : List D → Option T := one listD
theorem Rel.keepsE {cx : Cx} {sc : Scope} {ρ : AEnv} {S : Addr → Prop} {h h' : Heap} (r : Rel G cx sc ρ S h) (k : ∀ b o, h.get? b = some o → h'.get? b = some o) : Rel G cx sc ρ S h' ∧ Ext S h S h' ∧ VarSame cx.env h h' := ⟨r.keeps k, Ext.of_keeps k, r.same (.of_keeps k)⟩
theorem op_list (hq : G.quiet = true) : OpN G (fun vs => call (.type "list") vs []) listI := by
  intro cx sc ok ρ S s vs ds t rel q e Q E out
  have hsz : s.heap.get? s.heap.objs.size = none := Heap.get?_none_of_le (Nat.le_refl _)
  obtain ⟨d, rfl, e⟩ := one_inv e
  cases d with
  | list ds =>
    obtain ⟨hl, e⟩ := ifs e
    cases e
    obtain ⟨v, rfl, r⟩ := q.one
    obtain ⟨a, o, us, n, rfl, h1, h2, h3, k⟩ := r.list
    have hs := k.length
    rw [Array.length_toList] at hs
    refine call_list_seq a (.inl rfl) h1 h2 h3 (fun h' c' hk hD => ?_) (by rw [hs, sizeLine_eq]; omega)
    obtain ⟨r', x', v'⟩ := rel.keepsE hk
    exact out _ h' s.toks S r' (fresh_list rel (.of_keeps hk) hsz hD (k.ext x')) x' fun _ => v'
  | tup ds =>
    obtain ⟨hl, e⟩ := ifs e
    cases e
    obtain ⟨v, rfl, r⟩ := q.one
    obtain ⟨a, o, us, n, rfl, h1, h2, h3, k⟩ := r.tup
    have hs := k.length
    rw [Array.length_toList] at hs
    refine call_list_seq a (.inr rfl) h1 h2 h3 (fun h' c' hk hD => ?_) (by rw [hs, sizeLine_eq]; omega)
    obtain ⟨r', x', v'⟩ := rel.keepsE hk
    exact out _ h' s.toks S r' (fresh_list rel (.of_keeps hk) hsz hD (k.ext x')) x' fun _ => v'
  | range lo hi st =>
    obtain ⟨hf, e⟩ := ifs e
    cases e
    obtain ⟨f1, f2, f3⟩ := rangeFit_n hf
    obtain ⟨v, rfl, r⟩ := q.one
    have r := r.rv fun _ e => by cases e
    cases r with
    | range hr =>
      refine call_list_range (ok.hd hq) hr f1 f2 (by omega) fun h' tk acc c' hk hD hacc => ?_
      obtain ⟨r', x', v'⟩ := rel.keepsE hk
      exact out _ h' tk S r' (fresh_list rel (.of_keeps hk) hsz hD (range_items hacc)) x' fun _ => v'
  | _ => exact nn e
noncomputable def tupleD : D → Option T
  | .list ds => if ds.length ≤ 1000000 then some (.sh (.tup ds)) else none
  | .tup ds => some (.sh (.tup ds))
  | .range lo hi st => if rangeFit lo hi st then some (.sh (.tup (rangeL lo hi st))) else none
  | _ => none
noncomputable def tupleI : List D → Option T := one tupleD
theorem op_tuple (hq : G.quiet = true) : OpN G (fun vs => call (.type "tuple") vs []) tupleI := by
  intro cx sc ok ρ S s vs ds t rel q e Q E out
  obtain ⟨d, rfl, e⟩ := one_inv e
  cases d with
  | list ds =>
    obtain ⟨hl, e⟩ := ifs e
    cases e
    obtain ⟨v, rfl, r⟩ := q.one
    obtain ⟨a, o, us, n, rfl, h1, h2, h3, k⟩ := r.list
    have hs := k.length
    rw [Array.length_toList] at hs
    refine call_tuple_list ⟨o, h1, h2, n, h3⟩ (fun h' hk => ?_) (by rw [hs, sizeLine_eq]; omega)
    have hk' : ∀ b o, s.heap.get? b = some o → (h'.push { cls := .type "tuple", data := .seq us }).get? b = some o := fun b o e => Heap.get?_push_of_some _ (hk b o e)
    obtain ⟨r', x', v'⟩ := rel.keepsE hk'
    exact out _ _ s.toks S r' (.tup (Heap.get?_push_size _ rfl) rfl rfl (k.ext x')) x' fun _ => v'
  | tup ds =>
    cases e
    obtain ⟨v, rfl, r⟩ := q.one
    obtain ⟨a, o, us, n, rfl, h1, h2, h3, k⟩ := r.tup
    exact call_tuple_tup ⟨o, h1, h2, n, h3⟩ (out_sh out rel (tk := s.toks) (.tup h1 h2 h3 k))
  | range lo hi st =>
    obtain ⟨hf, e⟩ := ifs e
    cases e
    obtain ⟨f1, f2, f3⟩ := rangeFit_n hf
    obtain ⟨v, rfl, r⟩ := q.one
    have r := r.rv fun _ e => by cases e
    cases r with
    | range hr =>
      refine call_tuple_range (ok.hd hq) hr f1 f2 (by omega) fun h' tk acc hk hacc => ?_
      have hk' : ∀ b o, s.heap.get? b = some o → (h'.push { cls := .type "tuple", data := .seq acc }).get? b = some o := fun b o e => Heap.get?_push_of_some _ (hk b o e)
      obtain ⟨r', x', v'⟩ := rel.keepsE hk'
      exact out _ _ tk S r' (.tup (Heap.get?_push_size _ rfl) rfl rfl (range_items hacc)) x' fun _ => v'
  | _ => exact nn e
noncomputable def boolsOf : List D → Option (List Bool)
  | [] => some []
  | d :: ds => (asB d).bind fun b => (boolsOf ds).map (b :: ·)
noncomputable def allD : D → Option T
  | .list ds => (boolsOf ds).map fun bs => .sh (.bool (bs.all id))
  | _ => none
noncomputable def allI : List D → Option T := one allD
theorem asB_inv {x : D} {b : Bool} (e : asB x = some b) : x = .bool b := by
  cases x <;> first | (cases e; rfl) | exact nn e
theorem bools_get {S : Addr → Prop} {h : Heap} {vs : List Value} : ∀ {ds : List D} {bs : List Bool}, RVs S h vs ds → boolsOf ds = some bs → vs.length = bs.length ∧ ∀ (i : Nat) v, vs[i]? = some v → ∃ b, bs[i]? = some b ∧ v = .bool b := by
  induction vs with
  | nil => intro ds bs q e; cases q; cases e; exact ⟨rfl, fun i v hv => by cases hv⟩
  | cons v vs ih =>
    intro ds bs q e
    cases q with
    | cons q r =>
      obtain ⟨b, hb, e1⟩ := Option.bind_eq_some_iff.mp e
      obtain ⟨bs, hbs, rfl⟩ := Option.map_eq_some_iff.mp e1
      have := asB_inv hb
      subst this
      obtain ⟨l, m⟩ := ih r hbs
      cases q
      refine ⟨congrArg (· + 1) l, fun i v hv => ?_⟩
      cases i with
      | zero => cases hv; exact ⟨b, rfl, rfl⟩
      | succ i => exact m i v hv
theorem all_range (bs : List Bool) : ((List.range bs.length).all fun i => bs[i]?.getD false) = bs.all id := by
  rw [Bool.eq_iff_iff]
  simp only [List.all_eq_true, List.mem_range]
  constructor
  · intro h b hb
    obtain ⟨i, hi, rfl⟩ := List.mem_iff_getElem.mp hb
    have := h i hi
    simpa [hi] using this
  · intro h i hi
    have := h bs[i] (List.getElem_mem hi)
    simpa [hi] using this
theorem op_all (hq : G.quiet = true) : OpN G (fun vs => call (.builtin "all") vs []) allI := by
  intro cx sc ok ρ S s vs ds t rel q e Q E out
  obtain ⟨d, rfl, e⟩ := one_inv e
  cases d with
  | list ds =>
    obtain ⟨bs, hb, rfl⟩ := Option.map_eq_some_iff.mp e
    obtain ⟨v, rfl, r⟩ := q.one
    obtain ⟨a, o, us, n, rfl, h1, h2, h3, k⟩ := r.list
    obtain ⟨hlen, hget⟩ := bools_get k hb
    have il : s.heap.IsList a us := ⟨o, h1, h2, n, h3⟩
    refine call_all_walk (wpAny_pyIter_list il ?_)
    have hne : a ≠ s.heap.objs.size := fun e => by rw [e] at h1; rw [Heap.get?_none_of_le (Nat.le_refl _)] at h1; cases h1
    refine ⟨_, _, _, _, _, _, fun i => bs[i]?.getD false, rfl, Walks.list (A := cx.A.in1) (ok.hd hq) _ a hne us, ⟨⟨_, Heap.get?_push_size _ rfl, rfl, rfl⟩, il.push _⟩, fun i v s' Q' E' hP hQ' => ?_, fun h' tk hk => ?_⟩
    · obtain ⟨b, hb', rfl⟩ := hget i v (by simpa using hP)
      simp only [hb', Option.getD_some] at hQ'
      exact wpAny_truthy_bool hQ'
    · have hs : us.size = bs.length := by rw [← hlen]; simp
      rw [hs, all_range]
      have hk' : ∀ b o, s.heap.get? b = some o → h'.get? b = some o := fun b o e => hk b o (by simp; rintro rfl; rw [Heap.get?_none_of_le (Nat.le_refl _)] at e; cases e) (Heap.get?_push_of_some _ e)
      obtain ⟨r', x', v'⟩ := rel.keepsE hk'
      exact out _ h' tk S r' (.bool _) x' fun _ => v'
  | _ => exact nn e
end
end Mine
end

section
set_option Elab.async false
set_option maxRecDepth 100000
namespace Mine
open PySem PyProof.Rows
noncomputable def intsOf : List D → Option (List Int)
  | [] => some []
  | d :: ds => (asI d).bind fun i => (intsOf ds).map (i :: ·)
theorem intsOf_cons {d : D} {ds : List D} {ns : List Int} (e : intsOf (d :: ds) = some ns) : ∃ i ms, d = .int i ∧ intsOf ds = some ms ∧ ns = i :: ms := by
  obtain ⟨i, h1, e1⟩ := Option.bind_eq_some_iff.mp e
  obtain ⟨ms, h2, h3⟩ := Option.map_eq_some_iff.mp e1
  exact ⟨i, ms, asI_inv h1, h2, h3.symm⟩
noncomputable def sortI (ns : List Int) : List Int := ns.mergeSort (fun a b => decide (a ≤ b))
noncomputable def sortedD : D → Option T
  | .list ds => (intsOf ds).bind fun ns => if ns.length < 64 then some (.ow true (.list ((sortI ns).map .int))) else none
  | .tup ds => (intsOf ds).bind fun ns => if ns.length < 64 then some (.ow true (.list ((sortI ns).map .int))) else none
  | _ => none
noncomputable def sortedI : List D → Option T := one sortedD
theorem ints_are {S : Addr → Prop} {h : Heap} {vs : List Value} : ∀ {ds : List D} {ns : List Int}, RVs S h vs ds → intsOf ds = some ns → IntsAre vs ns := by
  induction vs with
  | nil => intro ds ns q e; cases q; cases e; exact .nil
  | cons v vs ih =>
    intro ds ns q e
    cases q with
    | cons q r =>
      obtain ⟨i, ms, rfl, hn, rfl⟩ := intsOf_cons e
      cases q
      exact .cons _ _ (ih r hn)
theorem ints_rvs {S : Addr → Prop} {h : Heap} {vs : List Value} {ns : List Int} (q : IntsAre vs ns) : RVs S h vs (ns.map .int) := by
  induction q with
  | nil => exact .nil
  | cons n t _ ih => exact .cons (.int n t) ih
theorem sort_unique {ns ns' : List Int} (p : ns'.Perm ns) (s : ns'.Pairwise (· ≤ ·)) : ns' = sortI ns := by
  have hs : (sortI ns).Pairwise (· ≤ ·) := by
    have := List.pairwise_mergeSort (le := fun a b : Int => decide (a ≤ b)) (fun a b c h1 h2 => by simp at *; omega) (fun a b => by simp; omega) ns
    exact this.imp fun h => by simpa using h
  exact List.Perm.eq_of_pairwise (fun a b _ _ h1 h2 => by omega) s hs (p.trans (List.mergeSort_perm ns _).symm)
section
variable {prog : Program} {w : World} {A : Around} {E : Value → Shared → Prop} {s : Shared}
theorem sorted_seq {l : Addr} {o : Obj} {vs : Array Value} {n : Nat} {T : String} {ns : List Int} {Q : Value → Shared → Prop} (hT : T = "list" ∨ T = "tuple") (ho : s.heap.get? l = some o) (hc : o.cls = .type T) (hd : o.data = .seq vs n) (hI : IntsAre vs.toList ns) (h64 : vs.size < 64)
    (h : ∀ (h' : Heap) (a : Addr) (e : Nat) (out : Array Value) (ns' : List Int), (∀ b o, s.heap.get? b = some o → h'.get? b = some o) → s.heap.get? a = none → h'.get? a = some (seqObj "list" out e) → IntsAre out.toList ns' → ns'.Perm ns → ns'.Pairwise (· ≤ ·) → Q (.ref a) { s with heap := h' }) :
    wpAny (model prog w) A (call (.builtin "sorted") [.ref l]) Q E s := by
  refine Calls.call_function_entry kind_sorted plain_sorted entry_sorted (args_sorted1 _) ?_
  unfold Builtin.«sorted»
  refine wpAny_bind (m := checkCount "sorted" 1 1 _) (wpAny_pure ?_)
  refine wpAny_bind (wpAny_collect_seq l hT ho hc hd (fun h₁ hk₁ => ?_) (by rw [sizeLine_eq]; omega))
  refine wpAny_bind (wpAny_newList ?_ (by rw [Array.length_toList, sizeLine_eq]; omega))
  have hoL : (h₁.push (seqObj "list" vs.toList.toArray 0)).get? h₁.objs.size = some (seqObj "list" vs.toList.toArray 0) := Heap.get?_push_size _ rfl
  refine wpAny_bind (wpAny_holding (wpAny_call_entry slot_list_sort ⟨_, hoL, rfl⟩ entry_list_sort (list_sort_tree hoL hI (by simpa using h64) fun out ns' a1 a2 a3 => ⟨_, rfl, ?_⟩) (args_list_sort _)))
  obtain ⟨e, he⟩ := sortedHeap_at (out := out) hoL
  have hn : s.heap.get? h₁.objs.size = none := by
    cases q : s.heap.get? h₁.objs.size with
    | none => rfl
    | some o => have := Heap.lt_size (hk₁ _ _ q); exact absurd this (Nat.lt_irrefl _)
  refine wpAny_pure ⟨_, rfl, h _ _ e out ns' (fun b o eb => ?_) hn he a1 a2 a3⟩
  have hlt := Heap.lt_size (hk₁ b o eb)
  rw [sortedHeap_old (Nat.ne_of_lt hlt) (by rw [size_push']; exact Nat.lt_succ_of_lt hlt)]
  exact Heap.get?_push_of_some _ (hk₁ b o eb)
end
theorem ints_len {ds : List D} : ∀ {ns : List Int}, intsOf ds = some ns → ds.length = ns.length := by
  induction ds with
  | nil => intro ns e; cases e; rfl
  | cons d ds ih =>
    intro ns e
    obtain ⟨i, ms, rfl, hn, rfl⟩ := intsOf_cons e
    exact congrArg (· + 1) (ih hn)
theorem op_sorted {G : Gd} : OpN G (fun vs => call (.builtin "sorted") vs []) sortedI := by
  intro cx sc ok ρ S s vs ds t rel q e Q E out
  obtain ⟨d, rfl, e⟩ := one_inv e
  cases d with
  | list ds =>
    obtain ⟨ns, hn, e⟩ := Option.bind_eq_some_iff.mp e
    split at e
    · rename_i hl
      cases e
      obtain ⟨v, rfl, r⟩ := q.one
      obtain ⟨a, o, us, n, rfl, h1, h2, h3, k⟩ := r.list
      have hs := k.length
      rw [Array.length_toList, ints_len hn] at hs
      refine sorted_seq (.inl rfl) h1 h2 h3 (ints_are k hn) (by omega) fun h' b e ot ns' hk hb he i1 p1 s1 => ?_
      obtain ⟨r', x', v'⟩ := rel.keepsE hk
      refine out _ h' s.toks S r' (fresh_list rel (.of_keeps hk) hb he ?_) x' fun _ => v'
      rw [← sort_unique p1 s1]
      exact ints_rvs i1
    · cases e
  | tup ds =>
    obtain ⟨ns, hn, e⟩ := Option.bind_eq_some_iff.mp e
    split at e
    · rename_i hl
      cases e
      obtain ⟨v, rfl, r⟩ := q.one
      obtain ⟨a, o, us, n, rfl, h1, h2, h3, k⟩ := r.tup
      have hs := k.length
      rw [Array.length_toList, ints_len hn] at hs
      refine sorted_seq (.inr rfl) h1 h2 h3 (ints_are k hn) (by omega) fun h' b e ot ns' hk hb he i1 p1 s1 => ?_
      obtain ⟨r', x', v'⟩ := rel.keepsE hk
      refine out _ h' s.toks S r' (fresh_list rel (.of_keeps hk) hb he ?_) x' fun _ => v'
      rw [← sort_unique p1 s1]
      exact ints_rvs i1
    · cases e
  | _ => exact nn e
section
variable {G : Gd} {cx : Cx} {sc : Scope} {ρ : AEnv} {S : Addr → Prop} {h h' : Heap}
theorem RV.but {S : Addr → Prop} {h h' : Heap} {a : Addr} {o : Obj} (e : h.get? a = some o) (ho : ¬ Imm o) (hs : ¬ S a) (k : ∀ b o, b ≠ a → h.get? b = some o → h'.get? b = some o) (ha : ∃ o, h'.get? a = some o) : Ext S h S h' :=
  ⟨fun _ q => q, fun b ob eb q => ⟨ob.slots, k b ob (by rintro rfl; rw [e] at eb; cases eb; exact q.elim hs ho) eb, fun _ => rfl⟩, fun b ob eb => by
    by_cases hb : b = a
    · subst hb; exact ha
    · exact ⟨ob, k b ob hb eb⟩⟩
theorem notImm_list {vs : Array Value} {n : Nat} : ¬ Imm { cls := .type "list", data := .seq vs n } := by
  rintro (⟨q, _⟩ | ⟨_, q⟩)
  · exact absurd q (by simp)
  · cases q
theorem Rel.turn {i : Nat} {x : Str} {d d' : D} {a : Addr} {o o' : Obj} (r : Rel G cx sc ρ S h) (bh : G.B.StaysIn cx.h₀) (hx : (varNames sc)[i]? = some x) (ht : ρ[i]? = some (some (.ow true d))) (hv : Var cx.env h x (.ref a))
    (e : h.get? a = some o) (hi : ¬ Imm o) (hc : ∀ v, o.data ≠ .cell v) (hl : cx.env.locals ≠ a) (k : Heap.SameBut a h h') (e' : h'.get? a = some o') (hdd : (∃ es n, o.data = .dict es n) → ∃ es n, o'.data = .dict es n) (hk : (∃ ks ds, d' = .dict ks ds) → ∃ ks ds, d = .dict ks ds) (q' : Ext S h S h' → OwnV S h' a d') :
    Rel G cx sc (ρ.set i (some (.ow true d'))) S h' ∧ Ext S h S h' ∧ VarSame cx.env h h' := by
  obtain ⟨w, hw, b, rfl, ns, _, hn⟩ := r.vars i x _ hx ht
  cases Var.inj hv hw
  have hn := hn rfl
  have x' : Ext S h S h' := RV.but e hi ns (fun b o hb eb => (k.2 b hb).trans eb) ⟨_, e'⟩
  have lt : i < ρ.length := (List.getElem?_eq_some_iff.mp ht).1
  have hcell : ∀ y c, cx.env.cells.lookup y = some c → c ≠ a := r.notCell e hc
  have nsame : ∀ m, h.Ns cx.env.locals m → h'.Ns cx.env.locals m := fun m n => n.sameBut k hl
  have csame : ∀ y c, cx.env.cells.lookup y = some c → ∀ w, h.IsCell c w → h'.IsCell c w := fun y c q w n => n.sameBut k (hcell y c q)
  have hb : VarSame cx.env h h' := fun y w q => by
    rcases q with ⟨a, m₁, b, c⟩ | ⟨a, c, b, d⟩
    · exact .inl ⟨a, m₁, nsame m₁ b, c⟩
    · exact .inr ⟨a, c, b, csame y c b _ d⟩
  have hf : ∀ y w, Var cx.env h' y w → Var cx.env h y w := fun y w q => by
    rcases q with ⟨a, m₁, b, c⟩ | ⟨a, c, b, d⟩
    · obtain ⟨m₀, n₀⟩ := r.ns
      exact .inl ⟨a, m₀, n₀, by rw [(nsame m₀ n₀).agree b y]; exact c⟩
    · obtain ⟨w₀, n₀⟩ := r.cells y c b
      exact .inr ⟨a, c, b, by rw [IsCell.inj d (csame y c b _ n₀)]; exact n₀⟩
  have pick : ∀ (j : Nat) (u : T), (ρ.set i (some (T.ow true d')))[j]? = some (some u) → (j = i ∧ u = .ow true d') ∨ (j ≠ i ∧ ρ[j]? = some (some u)) := fun j u hj => by
    by_cases hji : j = i
    · subst hji
      rw [List.getElem?_set_self lt] at hj; cases hj
      exact .inl ⟨rfl, rfl⟩
    · rw [List.getElem?_set_ne (Ne.symm hji)] at hj
      exact .inr ⟨hji, hj⟩
  have old : ∀ (j : Nat) (m : Bool) (d₁ : D), (ρ.set i (some (T.ow true d')))[j]? = some (some (.ow m d₁)) → ∃ d₂, ρ[j]? = some (some (.ow m d₂)) ∧ ((∃ ks ds, d₁ = .dict ks ds) → ∃ ks ds, d₂ = .dict ks ds) := fun j m d₁ hj => by
    rcases pick j _ hj with ⟨rfl, q⟩ | ⟨_, q⟩
    · cases q; exact ⟨_, ht, hk⟩
    · exact ⟨d₁, q, id⟩
  refine ⟨⟨fun b o q => (k.2 b (by rintro rfl; rw [bh _ _ q] at hn; cases hn)).trans (r.base b o q), fun b o q => ?_, fun env he => ?_, let ⟨m, n⟩ := r.ns; ⟨m, nsame m n⟩, fun y c q => let ⟨w, n⟩ := r.cells y c q; ⟨w, csame y c q w n⟩, fun b q => let ⟨o, eo⟩ := r.sdom b q; x'.dom b o eo, r.sok, r.sloc, r.scell, fun y b hdy q => let ⟨o, eo⟩ := r.live y b hdy (hf y _ q); x'.dom b o eo, fun j y m d hy hj => ?_, fun v q => let ⟨C, e⟩ := r.hok v q; ⟨C, e.ext x'⟩, fun j y u hy hu => ?_, fun j l y z m m' d d' u hy hz hj hl a b => ?_, fun j y m ks ds hy hj hvy => ?_⟩, x', hb⟩
  · obtain ⟨sl, q₁, k₁⟩ := r.keep b o q
    exact ⟨sl, (k.2 b (by rintro rfl; rw [q] at hn; cases hn)).trans q₁, k₁⟩
  · obtain ⟨p, L, o₁, b, c, d, es, n, q⟩ := r.ff env he
    by_cases hLa : L = a
    · subst hLa
      rw [e] at d; cases d
      obtain ⟨es', n', q₂⟩ := hdd ⟨es, n, q⟩
      exact ⟨p, L, _, b, c, e', es', n', q₂⟩
    · exact ⟨p, L, o₁, b, c, (k.2 L hLa).trans d, es, n, q⟩
  · obtain ⟨d', hj', _⟩ := old j m d hj
    exact r.clean j y m d' hy hj'
  · rcases pick j u hu with ⟨rfl, rfl⟩ | ⟨hji, hu⟩
    · rw [hx] at hy; cases hy
      exact ⟨_, hb _ _ hv, a, rfl, ns, q' x', fun _ => hn⟩
    · obtain ⟨w, hw', tw⟩ := r.vars j y u hy hu
      refine ⟨w, hb y w hw', ?_⟩
      cases u with
      | sh d => exact RV.ext x' tw
      | ow m d =>
        obtain ⟨b, rfl, n1, ow, n2⟩ := tw
        refine ⟨b, rfl, n1, ow.ext x' fun o eo => ⟨o.slots, (k.2 b ?_).trans eo, fun _ => rfl⟩, n2⟩
        rintro rfl
        exact hji (r.inj j i y x m true d _ _ hy hx hu ht hw' hv)
  · obtain ⟨d₁, h1, _⟩ := old j m d hj
    obtain ⟨d₂, h2, _⟩ := old l m' d' hl
    exact r.inj j l y z m m' d₁ d₂ u hy hz h1 h2 (hf y _ a) (hf z _ b)
  · obtain ⟨d₁, h1, h2⟩ := old j m _ hj
    obtain ⟨ks', ds', rfl⟩ := h2 ⟨_, _, rfl⟩
    exact r.dok j y m ks' ds' hy h1 (hf y _ hvy)
theorem Rel.mutate {i : Nat} {x : Str} {ds ds' : List D} {a : Addr} {vs' : Array Value} {n' : Nat} (r : Rel G cx sc ρ S h) (bh : G.B.StaysIn cx.h₀) (hx : (varNames sc)[i]? = some x) (ht : ρ[i]? = some (some (.ow true (.list ds)))) (hv : Var cx.env h x (.ref a))
    (k : Heap.SameBut a h h') (e' : h'.get? a = some { cls := .type "list", data := .seq vs' n' }) (q' : RVs S h vs'.toList ds') :
    Rel G cx sc (ρ.set i (some (.ow true (.list ds')))) S h' ∧ Ext S h S h' ∧ VarSame cx.env h h' := by
  obtain ⟨w, hw, b, rfl, ns, ⟨vs, n, e, q⟩, hn⟩ := r.vars i x _ hx ht
  cases Var.inj hv hw
  have hl : cx.env.locals ≠ a := by
    rintro rfl
    obtain ⟨m', o', es, ep, e', hd', _⟩ := r.ns
    rw [e] at e'; cases e'; cases hd'
  exact r.turn bh hx ht hv e notImm_list (by intro v q; cases q) hl k e' (by rintro ⟨_, _, q⟩; cases q) (by rintro ⟨_, _, q⟩; cases q) fun x' => ⟨vs', n', e', q'.ext x'⟩
end
noncomputable def ownList (ρ : AEnv) (i : Nat) : Option (List D) := match ρ[i]? with
  | some (some (.ow true (.list ds))) => if ds.length ≤ 1000000 then some ds else none
  | _ => none
theorem ownList_eq {ρ : AEnv} {i : Nat} {ds : List D} (h : ownList ρ i = some ds) : ρ[i]? = some (some (.ow true (.list ds))) ∧ ds.length ≤ 1000000 := by
  unfold ownList at h
  split at h
  · rename_i ds' e
    split at h
    · cases h; exact ⟨e, by assumption⟩
    · cases h
  · cases h
theorem Rel.own {G : Gd} {cx : Cx} {sc : Scope} {ρ : AEnv} {S : Addr → Prop} {h : Heap} {i : Nat} {x : Str} {ds : List D} (r : Rel G cx sc ρ S h) (hx : (varNames sc)[i]? = some x) (ht : ρ[i]? = some (some (.ow true (.list ds)))) :
    ∃ a vs n, Var cx.env h x (.ref a) ∧ h.get? a = some { cls := .type "list", data := .seq vs n } ∧ RVs S h vs.toList ds ∧ vs.size = ds.length := by
  obtain ⟨w, hw, a, rfl, _, ⟨vs, n, e, q⟩, _⟩ := r.vars i x _ hx ht
  exact ⟨a, vs, n, hw, e, q, by rw [← q.length]; simp⟩
theorem seq_update {h : Heap} {a : Addr} {vs : Array Value} {n : Nat} (f : Array Value → Array Value) (e : h.get? a = some { cls := .type "list", data := .seq vs n }) : ∃ n', (h.update a (Obj.mapSeq f)).get? a = some { cls := .type "list", data := .seq (f vs) n' } := by
  have := Heap.get?_update_self (Obj.mapSeq f) e (by rfl)
  exact ⟨_, this⟩
noncomputable def eAppend (i : Nat) (f : AEnv → Res T) : AEnv → Res T := fun ρ => match ownList ρ i with
  | none => .stuck
  | some _ => (f ρ).bind fun t ρ₁ => match ownList ρ₁ i with
    | some ds => .ok (.sh .none) (ρ₁.set i (some (.ow true (.list (ds ++ [t.val])))))
    | none => .stuck
noncomputable def ePop (i : Nat) (f : AEnv → Res Bv) : AEnv → Res T := fun ρ => match ownList ρ i with
  | none => .stuck
  | some _ => (f ρ).bind fun t ρ₁ => match t.get ρ₁, ownList ρ₁ i with
    | some (.int j), some ds => if 0 ≤ j ∧ j < ds.length then (match ds[j.toNat]? with
      | some d => .ok (.sh d) (ρ₁.set i (some (.ow true (.list (ds.eraseIdx j.toNat)))))
      | none => .stuck) else .stuck
    | _, _ => .stuck
noncomputable def SimM (G : Gd) (k : Nat) (sc : Scope) (e : Expr) (f : AEnv → Res T) : Prop :=
  ∀ cx, CxOk G cx sc k → FnOk G cx → ∀ ρ S s, Rel G cx sc ρ S s.heap → Does G cx sc true (eval e cx.env) S s (fun S' h' v t => TTmp cx S' h' v t) (f ρ)
theorem SimM.of {G : Gd} {k : Nat} {sc : Scope} {e : Expr} {f : AEnv → Res T} (h : Sim G k sc e f) : SimM G k sc e f := fun cx ok _ => h cx ok
section
variable {G : Gd} {k : Nat} {sc : Scope}
theorem sim_append {x : Str} {p apos pos : Pos} {e : Expr} {i : Nat} {f : AEnv → Res T} (he : SimM G k sc e f) (hx : (varNames sc)[i]? = some x) (hd : (x == ("__debug__" : Str)) = false) (hn : (x == ("__classdict__" : Str)) = false)
    (hu : ∀ env, backTo pos (starEach [e] env) = [(false, eval e env)]) (hline : (apos.endLine == pos.line) = true) : SimM G k sc (.Call (.Attribute (.Name x p) "append" apos) [e] [] pos) (eAppend i f) := by
  intro cx ok fn ρ S s r Q E out
  unfold eAppend at out
  split at out
  · exact out.elim
  · rename_i ds₀ h0
    obtain ⟨t0, l0⟩ := ownList_eq h0
    obtain ⟨a, vs, n, hv, ho, q, hsz⟩ := r.own hx t0
    refine wpAny_Call_method rfl (by rw [hu]; rfl) hline F.plainAttrs_list F.slot_list_append F.type_list_append ?_
    refine wpAny_Name (sim_load (ok.mono (Nat.zero_le _)) hv hn rfl ?_) hd
    refine ⟨⟨_, ho, rfl⟩, fun b eb => ?_, ?_⟩
    · cases eb; exact ⟨_, ho, rfl⟩
    rw [hu]
    refine PySem.P.append_list ?_
    refine (he cx ok fn ρ S s r).shared _ _ ?_
    cases hf : f ρ with
    | stuck => rw [hf] at out; exact out.elim
    | exc C ρ₁ => rw [hf] at out; exact out
    | ok t ρ₁ =>
      rw [hf] at out
      simp only [Res.bind] at out
      intro v h₁ t₁ S₁ r₁ j₁ x₁ v₁
      split at out
      · rename_i ds h1
        obtain ⟨e1, l1⟩ := ownList_eq h1
        obtain ⟨a', vs', n', hv', ho', q', hsz'⟩ := r₁.own hx e1
        cases Var.inj hv' (v₁ rfl x _ hv)
        refine ⟨vs', n', by rw [hsz', sizeLine_eq]; omega, ho', ?_⟩
        obtain ⟨m', hm'⟩ := seq_update (fun xs => xs.push v) ho'
        obtain ⟨r₂, x₂, v₂⟩ := r₁.mutate fn.bh hx e1 hv' (Heap.SameBut.update ..) hm' (ds' := ds ++ [t.val]) (by rw [Array.toList_push]; exact RVs.append (.cons j₁ .nil) q')
        exact out _ _ t₁ S₁ r₂ .none (x₁.trans x₂) fun z => (v₁ z).trans v₂
      · exact out.elim
theorem sim_pop {x : Str} {p apos pos : Pos} {e : Expr} {i : Nat} {f : AEnv → Res Bv} (he : SimB G k sc e f) (hx : (varNames sc)[i]? = some x) (hd : (x == ("__debug__" : Str)) = false) (hn : (x == ("__classdict__" : Str)) = false)
    (hu : ∀ env, backTo pos (starEach [e] env) = [(false, eval e env)]) (hline : (apos.endLine == pos.line) = true) : SimM G k sc (.Call (.Attribute (.Name x p) "pop" apos) [e] [] pos) (ePop i f) := by
  intro cx ok fn ρ S s r Q E out
  unfold ePop at out
  split at out
  · exact out.elim
  · rename_i ds₀ h0
    obtain ⟨t0, l0⟩ := ownList_eq h0
    obtain ⟨a, vs, n, hv, ho, q, hsz⟩ := r.own hx t0
    refine wpAny_Call_method rfl (by rw [hu]; rfl) hline F.plainAttrs_list F.slot_list_pop F.type_list_pop ?_
    refine wpAny_Name (sim_load (ok.mono (Nat.zero_le _)) hv hn rfl ?_) hd
    refine ⟨⟨_, ho, rfl⟩, fun b eb => ?_, ?_⟩
    · cases eb; exact ⟨_, ho, rfl⟩
    rw [hu]
    refine PySem.P.pop_at_list ?_
    refine he cx ok ρ S s r _ _ ?_
    cases hf : f ρ with
    | stuck => rw [hf] at out; exact out.elim
    | exc C ρ₁ => rw [hf] at out; exact out
    | ok t ρ₁ =>
      rw [hf] at out
      simp only [Res.bind] at out
      intro v h₁ t₁ S₁ r₁ j₁ x₁ v₁
      split at out
      · rename_i j ds hj h1
        obtain ⟨u, rfl⟩ := (BVal.rb j₁ r₁ hj).int
        obtain ⟨e1, l1⟩ := ownList_eq h1
        obtain ⟨a', vs', n', hv', ho', q', hsz'⟩ := r₁.own hx e1
        cases Var.inj hv' (v₁ rfl x _ hv)
        split at out
        · rename_i hb
          split at out
          · rename_i d hd
            obtain ⟨y, hy, ry⟩ := q'.get hd
            refine ⟨vs', n', j, u, j.toNat, y, by rw [hsz', sizeLine_eq]; omega, rfl, ho', by unfold Builtin.List.listFitsIndex; simp; omega, seqIndex_pos hb.1 (by omega), by simpa using hy, ?_⟩
            obtain ⟨m', hm'⟩ := seq_update (fun xs => xs.eraseIdxIfInBounds j.toNat) ho'
            have hj' : j.toNat < vs'.size := by omega
            obtain ⟨r₂, x₂, v₂⟩ := r₁.mutate fn.bh hx e1 hv' (Heap.SameBut.update ..) hm' (ds' := ds.eraseIdx j.toNat) (by
              rw [Array.eraseIdxIfInBounds, dif_pos hj', Array.toList_eraseIdx]; exact q'.eraseIdx _)
            exact out _ _ t₁ S₁ r₂ (ry.ext x₂) (x₁.trans x₂) fun z => (v₁ z).trans v₂
          · exact out.elim
        · exact out.elim
      · exact out.elim
theorem simS_ExprM {e : Expr} {pos : Pos} {f : AEnv → Res T} (h : SimM G k sc e f) (hs : ∀ env : Env, swapsWith e none pos.line env = pure false) : SimS G k sc (.Expr e pos) (sExpr (eVal f)) := by
  intro cx ok fn ρ S s r Q E out
  refine wpAny_Expr_any ?_ (by unfold interactive; rw [ok.hsc, ok.hk]; rfl) (hs cx.env)
  refine h cx ok fn ρ S s r _ _ ?_
  unfold sExpr eVal at out
  cases hf : f ρ with
  | stuck => rw [hf] at out; exact out
  | exc C ρ' => rw [hf] at out; exact out
  | ok t ρ' => rw [hf] at out; intro v h' tk S' rel j x vs; exact out .next h' tk S' rel trivial x fun q => by cases q
theorem setItem_exact {prog : Program} {w : World} {A : Around} {E : Value → Shared → Prop} {s : Shared} {l : Addr} {o : Obj} {items : Array Value} {n : Nat} {i : Int} {t : Tok} {v : Value} {Q : Unit → Shared → Prop} (ho : s.heap.get? l = some o) (hc : o.cls = .type "list") (hd : o.data = .seq items n)
    (h0 : 0 ≤ i) (hfit : i < 2 ^ 63) (hn : i < items.size) (hQ : Q () { s with heap := s.heap.update l (Obj.mapSeq (·.setIfInBounds i.toNat v)) }) : wpAny (model prog w) A (setItem (.ref l) (.int i t) v) Q E s := by
  have hT : s.TypeIs (.ref l) "list" := ⟨o, ho, hc⟩
  unfold setItem
  try with_reducible refine wpAny_holding ?_
  first | refine wpAny_bind (wpAny_pure ?_) | skip
  refine wpAny_bind (wpAny_sequenceKey hT (by decide) ?_)
  refine wpAny_bind (wpAny_callSpecial?_slot (name := Str.ofString "__setitem__") hT slot_list_setitem
    (wpAny_call_entry slot_list_setitem hT entry_list_setitem ?_ (args_list_setitem _ _ _)))
  show wpAny _ _ (Builtin.List.listSubscript? (.int i t) >>= _) _ _ s
  refine wpAny_bind (wpAny_listSubscript_int (fitsIndex_of h0 hfit) ?_)
  clear hfit
  obtain ⟨j, rfl⟩ := Int.eq_ofNat_of_zero_le h0
  have hj : j < items.size := by omega
  have hx' : items[j]? = some items[j] := Array.getElem?_eq_getElem hj
  show wpAny _ _ ((seqItemAt l j >>= fun r => pure (r.map (j, ·))) >>= _) _ _ s
  refine wpAny_bind (wpAny_bind (wpAny_seqItemAt ho hd (wpAny_pure ?_)))
  rw [hx']
  show wpAny _ _ (setSeqItemAt l j v >>= _) _ _ s
  refine wpAny_bind (wpAny_setSeqItemAt ho hd ?_)
  first
    | exact wpAny_bind (wpAny_pure (wpAny_pure ⟨.none, rfl, wpAny_pure hQ⟩))
    | exact wpAny_pure ⟨.none, rfl, wpAny_pure hQ⟩
noncomputable def sSetItem (i : Nat) (f : AEnv → Res Bv) (g : AEnv → Res T) : AEnv → Res Fl := fun ρ => (g ρ).bind fun t ρ₁ => match ownList ρ₁ i with
  | none => .stuck
  | some _ => (f ρ₁).bind fun b ρ₂ => match b.get ρ₂, ownList ρ₂ i with
    | some (.int j), some ds => if 0 ≤ j ∧ j < ds.length then .ok .next (ρ₂.set i (some (.ow true (.list (ds.set j.toNat t.val))))) else .stuck
    | _, _ => .stuck
theorem simS_SetItem {x : Str} {p ip pos : Pos} {ix value : Expr} {i : Nat} {f : AEnv → Res Bv} {g : AEnv → Res T} (hf : SimB G k sc ix f) (hg : Sim G k sc value g) (hx : (varNames sc)[i]? = some x) (hd : (x == ("__debug__" : Str)) = false) (hn : (x == ("__classdict__" : Str)) = false)
    (hs : ∀ env : Env, env.scope = sc → swapsWithSole [.Subscript (.Name x p) ix ip] value pos.line env = pure false) (hw : ∀ env : Env, swappedStores [.Subscript (.Name x p) ix ip] value env = pure none) :
    SimS G k sc (.Assign [.Subscript (.Name x p) ix ip] value pos) (sSetItem i f g) := by
  intro cx ok fn ρ S s r Q E out
  rw [exec_Assign]
  refine wpAny_bind (wpAny_standAt ?_)
  rw [hs cx.env ok.hsc]
  refine wpAny_bind (wpAny_pure ?_)
  rw [if_neg (by decide)]
  refine wpAny_bind ((hg cx ok ρ S s r).shared _ _ ?_)
  unfold sSetItem at out
  cases hgv : g ρ with
  | stuck => rw [hgv] at out; exact out.elim
  | exc C ρ₁ => rw [hgv] at out; exact out
  | ok t ρ₁ =>
    rw [hgv] at out
    simp only [Res.bind] at out
    intro v h₁ t₁ S₁ r₁ j₁ x₁ v₁
    rw [hw]
    refine wpAny_bind (wpAny_pure ?_)
    show wpAny _ _ (do assignAll v [assign (.Subscript (.Name x p) ix ip) cx.env]; pure .next) Q E _
    refine wpAny_bind ?_
    show wpAny _ _ (assign (.Subscript (.Name x p) ix ip) cx.env v) _ E _
    rw [arm_assign_Subscript]
    split at out
    · exact out.elim
    rename_i ds₀ h0
    obtain ⟨t0, l0⟩ := ownList_eq h0
    obtain ⟨a, vs, n, hv, ho, q, hsz⟩ := r₁.own hx t0
    refine wpAny_bind (wpAny_holding (wpAny_Name (sim_load (ok.mono (Nat.zero_le _)) hv hn rfl ?_) hd))
    refine wpAny_bind (wpAny_holding (hf cx ok ρ₁ S₁ { s with heap := h₁, toks := t₁ } r₁ _ _ ?_))
    cases hfv : f ρ₁ with
    | stuck => rw [hfv] at out; exact out.elim
    | exc C ρ₂ => rw [hfv] at out; intro e h₂ t₂ S₂ r₂ f₂ x₂; exact out e h₂ t₂ S₂ r₂ (f₂.back x₁) (x₁.trans x₂)
    | ok b ρ₂ =>
      rw [hfv] at out
      simp only at out
      intro iv h₂ t₂ S₂ r₂ j₂ x₂ v₂
      refine wpAny_bind (wpAny_standAt ?_)
      split at out
      · rename_i j ds hj h1
        obtain ⟨u, rfl⟩ := (BVal.rb j₂ r₂ hj).int
        obtain ⟨e1, l1⟩ := ownList_eq h1
        obtain ⟨a', vs', n', hv', ho', q', hsz'⟩ := r₂.own hx e1
        cases Var.inj hv' (v₂ rfl x _ hv)
        split at out
        · rename_i hb
          refine wpAny_bind (wpAny_holding (setItem_exact ho' rfl rfl hb.1 (by omega) (by omega) ?_))
          obtain ⟨m', hm'⟩ := seq_update (fun xs => xs.setIfInBounds j.toNat v) ho'
          obtain ⟨r₃, x₃, v₃⟩ := r₂.mutate fn.bh hx e1 hv' (Heap.SameBut.update ..) hm' (ds' := ds.set j.toNat t.val) (by
            rw [Array.toList_setIfInBounds]; exact q'.set (j₁.ext x₂) _)
          refine wpAny_release (wpAny_pure ?_)
          exact out .next _ t₂ S₂ r₃ trivial ((x₁.trans x₂).trans x₃) fun z => by cases z
        · exact out.elim
      · exact out.elim
end
end Mine
end

section
set_option Elab.async false
set_option maxRecDepth 100000
namespace Mine
open PySem PyProof.Rows
theorem entry_unchain : entryFor table "proto.unchain" = some Builtin.«proto.unchain» := entryFor_of_tree (by kernel_rfl)
noncomputable def HOk (A : Around) (h : Heap) : Prop := ∀ v, A.handled = some v → ∃ a o vs, v = .ref a ∧ h.get? a = some o ∧ o.data = .fields vs ∧ vs[2]? = some .none
theorem HOk.keeps {A : Around} {h h' : Heap} (q : HOk A h) (k : ∀ b o vs, h.get? b = some o → o.data = .fields vs → vs[2]? = some .none → ∃ o' vs', h'.get? b = some o' ∧ o'.data = .fields vs' ∧ vs'[2]? = some .none) : HOk A h' := fun v e => by
  obtain ⟨a, o, vs, rfl, h1, h2, h3⟩ := q v e
  obtain ⟨o', vs', k1, k2, k3⟩ := k a o vs h1 h2 h3
  exact ⟨a, o', vs', rfl, k1, k2, k3⟩
theorem Rel.hOk {G : Gd} {cx : Cx} {sc : Scope} {ρ : AEnv} {S : Addr → Prop} {h : Heap} (r : Rel G cx sc ρ S h) : HOk cx.A h := fun v e => by
  obtain ⟨C, q⟩ := r.hok v e
  cases q with
  | exc h1 h2 h3 h4 h5 => exact ⟨_, _, _, rfl, h1, h4, h5⟩
section
variable {prog : Program} {w : World} {A : Around} {E : Value → Shared → Prop} {s : Shared}
theorem wp_stop {α : Type} {Q : α → Shared → Prop} (hh : HOk A s.heap)
    (hE : ∀ h' e, (∀ b o, s.heap.get? b = some o → h'.get? b = some o) → (∃ o, h'.get? e = some o ∧ o.cls = .type "StopIteration") → E (.ref e) { s with heap := h' }) :
    wpAny (model prog w) A (newExc (.type "StopIteration") [] >>= fun e => (raiseNew e : Sem α)) Q E s := by
  refine wpAny_bind ?_
  simp only [newExc, newTuple]
  refine wpAny_bind (wpAny_newObj_type ?_ (by size_fits))
  refine wpAny_bind (m := firstArgMember _ _) (wpAny_of_eq (a := Value.none) (by first | rfl | (simp only [firstArgMember]; rfl)) ?_)
  refine wpAny_newObj_type ?_ (by size_fits)
  simp only [raiseNew]
  refine wpAny_bind (wpAny_handled ?_)
  generalize ho1 : ({ cls := Value.type "tuple", data := Data.seq ([] : List Value).toArray } : Obj) = o1
  generalize ho2 : ({ cls := Value.type "StopIteration", data := _ } : Obj) = o2
  have keep : ∀ b o, s.heap.get? b = some o → ((s.heap.push o1).push o2).get? b = some o := fun b o e => Heap.get?_push_of_some _ (Heap.get?_push_of_some _ e)
  have hnew : ((s.heap.push o1).push o2).get? (s.heap.push o1).objs.size = some o2 := Heap.get?_push_size _ (by subst ho2; rfl)
  have hcls : o2.cls = .type "StopIteration" := by subst ho2; rfl
  cases hA : A.handled with
  | none => exact wpAny_bind (wpAny_pure (wpAny_throw (hE _ _ keep ⟨_, hnew, hcls⟩)))
  | some v =>
    obtain ⟨a, o, vs, rfl, h1, h2, h3⟩ := hh v hA
    have hne : (Value.ref a != Value.ref (s.heap.push o1).objs.size) = true := by
      have := Heap.lt_size h1
      rw [bne_iff_ne]
      intro q
      rw [Value.ref.injEq, Heap.size_push] at q
      exact absurd this (by rw [q]; exact Nat.not_lt.mpr (Nat.le_succ _))
    simp only [hne, if_true]
    have hd2 : ∃ ws, o2.data = .fields ws ∧ 2 < ws.size := by subst ho2; exact ⟨_, rfl, by rw [Array.size_append]; simp; omega⟩
    obtain ⟨ws, hws, hsz⟩ := hd2
    refine wpAny_bind (wpAny_holding (wpAny_runValue (codeAny_builtin entry_unchain ?_)))
    show wpAny _ _ (do
      let context ← field (.ref a) 2
      if context == .none then return ← ret .none
      if context == .ref (s.heap.push o1).objs.size then
        rule "raise.context-cycle-cut"
        setField (.ref a) 2 .none
        return ← ret .none
      if context == .ref a then rule "raise.context-old-cycle"; return ← ret .none
      let slow ← (if false then field (.ref a) 2 else pure (.ref a))
      again (.builtin "proto.unchain" ⟨[.ref (s.heap.push o1).objs.size, context, slow, .bool !false], []⟩)) _ _ _
    refine wpAny_bind (wpAny_field (keep a o h1) h2 h3 ?_)
    rw [if_pos (by rfl)]
    refine wpAny_bind (wpAny_pure (wpAny_pure ?_))
    refine wpAny_bind ?_
    show wpAny _ _ (setField (.ref (s.heap.push o1).objs.size) 2 (.ref a)) _ _ _
    refine wpAny_setField hnew hws hsz (wpAny_throw (hE _ _ (fun b o e => ?_) ⟨_, Heap.get?_update_self _ hnew (Obj.isFreed_of_fields (Obj.data_mapFields hws _)), (Obj.cls_mapFields ..).trans hcls⟩))
    refine (Heap.get?_update_other _ _ ?_).trans (keep b o e)
    have := Heap.lt_size e
    rw [Heap.size_push]
    exact fun q => absurd this (by rw [← q]; exact Nat.not_lt.mpr (Nat.le_succ _))
noncomputable def KB (wr : List Addr) (h h' : Heap) : Prop := (∀ b o, b ∉ wr → h.get? b = some o → h'.get? b = some o) ∧ ∀ b ∈ wr, ∃ o, h'.get? b = some o
theorem listiter_tree_end {it l : Addr} {i : Nat} {o ol : Obj} {items : Array Value} {nl : Nat} {P : Fin → Shared → Prop} (hh : HOk A s.heap) (ho : s.heap.get? it = some o) (hd : o.data = .fields #[.ref l, .int i 0]) (hol : s.heap.get? l = some ol) (hdl : ol.data = .seq items nl) (hx : items[i]? = none) (hni : ∀ v, A.handled = some v → v ≠ .ref it)
    (hE : ∀ h' e, KB [it] s.heap h' → (∃ o, h'.get? e = some o ∧ o.cls = .type "StopIteration") → E (.ref e) { s with heap := h' }) :
    wpAny (model prog w) A (Builtin.«list_iterator.__next__» ⟨[.ref it], []⟩) P E s := by
  show wpAny _ _ (field (.ref it) 0 >>= _) _ _ s
  refine wpAny_bind (wpAny_field ho hd (x := .ref l) rfl ?_)
  show wpAny _ _ (if (Value.ref l == Value.none) = true then _ else _) _ _ s
  rw [if_neg (show ¬ ((Value.ref l == Value.none) = true) from Bool.false_ne_true)]
  show wpAny _ _ (field (.ref it) 1 >>= _) _ _ s
  refine wpAny_bind (wpAny_field ho hd (x := .int i 0) rfl ?_)
  show wpAny _ _ (seqItems? (.ref l) >>= _) _ _ s
  refine wpAny_bind (wpAny_seqItems hol hdl ?_)
  simp only [Int.toNat_natCast, hx]
  refine wpAny_bind (wpAny_rule (wpAny_bind (wpAny_setField ho hd (by simp) ?_)))
  have self := Heap.get?_update_self (Obj.mapFields (·.setIfInBounds 0 Value.none)) ho (Obj.isFreed_of_fields (Obj.data_mapFields hd _))
  have oth : ∀ b o, b ≠ it → s.heap.get? b = some o → (s.heap.update it (Obj.mapFields (·.setIfInBounds 0 Value.none))).get? b = some o := fun b o hb e => (Heap.get?_update_other _ _ (Ne.symm hb)).trans e
  show wpAny _ _ (newExc (.type "StopIteration") [] >>= fun e => raiseNew e) _ _ _
  refine wp_stop (s := { s with heap := s.heap.update it (Obj.mapFields (·.setIfInBounds 0 Value.none)) }) (fun v e => ?_) fun h' e k he => hE h' e ⟨fun b o hb eb => k b o (oth b o (by simpa using hb) eb), fun b hb => by cases List.mem_singleton.mp hb; exact ⟨_, k _ _ self⟩⟩ he
  obtain ⟨a, o', vs, rfl, h1, h2, h3⟩ := hh v e
  exact ⟨a, o', vs, rfl, oth a o' (fun q => hni _ e (by rw [q])) h1, h2, h3⟩
theorem listiter_next_end {it l : Addr} {i : Nat} {o ol : Obj} {items : Array Value} {nl : Nat} {Q : Option Value → Shared → Prop} 
    (hh : HOk A s.heap) (ho : s.heap.get? it = some o) (hc : o.cls = .type "list_iterator") (hd : o.data = .fields #[.ref l, .int i 0]) (hol : s.heap.get? l = some ol) (hdl : ol.data = .seq items nl) (hx : items[i]? = none) (hni : ∀ v, A.handled = some v → v ≠ .ref it)
    (hQ : ∀ h', KB [it] s.heap h' → Q none { s with heap := h' }) : wpAny (model prog w) A (pyNext (.ref it)) Q E s := by
  have hT : s.TypeIs (.ref it) "list_iterator" := ⟨o, ho, hc⟩
  unfold pyNext
  refine wpAny_bind (wpAny_attempt (wpAny_callSpecial?_slot (name := Str.ofString "__next__") hT slot_listiter_next (wpAny_call_entry slot_listiter_next hT entry_listiter_next ?_ (args_listiter_next _))))
  refine listiter_tree_end (A := A.in1) hh ho hd hol hdl hx hni fun h' e k he => ?_
  obtain ⟨oe, he, hce⟩ := he
  refine wpAny_bind (wpAny_isInstance (T := "StopIteration") (b := true) ⟨_, he, hce⟩ isSubtype_stop ?_)
  exact wpAny_pure (hQ _ k)
theorem tupleiter_tree_end {it l : Addr} {i : Nat} {o ol : Obj} {items : Array Value} {nl : Nat} {P : Fin → Shared → Prop} (hh : HOk A s.heap) (ho : s.heap.get? it = some o) (hd : o.data = .fields #[.ref l, .int i 0]) (hol : s.heap.get? l = some ol) (hdl : ol.data = .seq items nl) (hx : items[i]? = none) (hni : ∀ v, A.handled = some v → v ≠ .ref it)
    (hE : ∀ h' e, KB [it] s.heap h' → (∃ o, h'.get? e = some o ∧ o.cls = .type "StopIteration") → E (.ref e) { s with heap := h' }) :
    wpAny (model prog w) A (Builtin.«tuple_iterator.__next__» ⟨[.ref it], []⟩) P E s := by
  show wpAny _ _ (field (.ref it) 0 >>= _) _ _ s
  refine wpAny_bind (wpAny_field ho hd (x := .ref l) rfl ?_)
  show wpAny _ _ (if (Value.ref l == Value.none) = true then _ else _) _ _ s
  rw [if_neg (show ¬ ((Value.ref l == Value.none) = true) from Bool.false_ne_true)]
  show wpAny _ _ (field (.ref it) 1 >>= _) _ _ s
  refine wpAny_bind (wpAny_field ho hd (x := .int i 0) rfl ?_)
  show wpAny _ _ (seqItems? (.ref l) >>= _) _ _ s
  refine wpAny_bind (wpAny_seqItems hol hdl ?_)
  simp only [Int.toNat_natCast, hx]
  refine wpAny_bind (wpAny_rule (wpAny_bind (wpAny_setField ho hd (by simp) ?_)))
  have self := Heap.get?_update_self (Obj.mapFields (·.setIfInBounds 0 Value.none)) ho (Obj.isFreed_of_fields (Obj.data_mapFields hd _))
  have oth : ∀ b o, b ≠ it → s.heap.get? b = some o → (s.heap.update it (Obj.mapFields (·.setIfInBounds 0 Value.none))).get? b = some o := fun b o hb e => (Heap.get?_update_other _ _ (Ne.symm hb)).trans e
  show wpAny _ _ (newExc (.type "StopIteration") [] >>= fun e => raiseNew e) _ _ _
  refine wp_stop (s := { s with heap := s.heap.update it (Obj.mapFields (·.setIfInBounds 0 Value.none)) }) (fun v e => ?_) fun h' e k he => hE h' e ⟨fun b o hb eb => k b o (oth b o (by simpa using hb) eb), fun b hb => by cases List.mem_singleton.mp hb; exact ⟨_, k _ _ self⟩⟩ he
  obtain ⟨a, o', vs, rfl, h1, h2, h3⟩ := hh v e
  exact ⟨a, o', vs, rfl, oth a o' (fun q => hni _ e (by rw [q])) h1, h2, h3⟩
theorem tupleiter_next_end {it l : Addr} {i : Nat} {o ol : Obj} {items : Array Value} {nl : Nat} {Q : Option Value → Shared → Prop} 
    (hh : HOk A s.heap) (ho : s.heap.get? it = some o) (hc : o.cls = .type "tuple_iterator") (hd : o.data = .fields #[.ref l, .int i 0]) (hol : s.heap.get? l = some ol) (hdl : ol.data = .seq items nl) (hx : items[i]? = none) (hni : ∀ v, A.handled = some v → v ≠ .ref it)
    (hQ : ∀ h', KB [it] s.heap h' → Q none { s with heap := h' }) : wpAny (model prog w) A (pyNext (.ref it)) Q E s := by
  have hT : s.TypeIs (.ref it) "tuple_iterator" := ⟨o, ho, hc⟩
  unfold pyNext
  refine wpAny_bind (wpAny_attempt (wpAny_callSpecial?_slot (name := Str.ofString "__next__") hT slot_tupleiter_next (wpAny_call_entry slot_tupleiter_next hT entry_tupleiter_next ?_ (args_tupleiter_next _))))
  refine tupleiter_tree_end (A := A.in1) hh ho hd hol hdl hx hni fun h' e k he => ?_
  obtain ⟨oe, he, hce⟩ := he
  refine wpAny_bind (wpAny_isInstance (T := "StopIteration") (b := true) ⟨_, he, hce⟩ isSubtype_stop ?_)
  exact wpAny_pure (hQ _ k)
theorem next_range_end {it : Addr} {x left step : Int} {Q : Option Value → Shared → Prop} (hh : HOk A s.heap) (hit : IsRangeIter s.heap it x left step) (hleft : left ≤ 0)
    (hQ : ∀ h', KB [it] s.heap h' → Q none { s with heap := h' }) : wpAny (model prog w) A (pyNext (.ref it)) Q E s := by
  have hT : s.TypeIs (.ref it) "range_iterator" := ⟨_, hit, rfl⟩
  unfold pyNext
  refine wpAny_bind (wpAny_attempt (wpAny_callSpecial?_slot (name := Str.ofString "__next__") hT F.slot_range_iterator_next
    (wpAny_call_entry F.slot_range_iterator_next hT F.entry_range_iterator_next ?_ (F.args_range_iterator_next_1 _))))
  show wpAny _ _ (field (.ref it) 0 >>= _) _ _ s
  refine wpAny_bind (wpAny_field hit rfl (x := rawInt x) rfl ?_)
  show wpAny _ _ (field (.ref it) 1 >>= _) _ _ s
  refine wpAny_bind (wpAny_field hit rfl (x := rawInt left) rfl ?_)
  show wpAny _ _ (field (.ref it) 2 >>= _) _ _ s
  refine wpAny_bind (wpAny_field hit rfl (x := rawInt step) rfl ?_)
  show wpAny _ _ (if left ≤ 0 then _ else _) _ _ s
  rw [if_pos hleft]
  refine wpAny_bind (wpAny_rule ?_)
  refine wpAny_bind ?_
  show wpAny _ _ (newExc (.type "StopIteration") [] >>= fun e => raiseNew e) _ _ _
  refine wp_stop (A := A.in1) hh fun h' e k he => ?_
  obtain ⟨oe, he, hce⟩ := he
  refine wpAny_bind (wpAny_isInstance (T := "StopIteration") (b := true) ⟨_, he, hce⟩ isSubtype_stop ?_)
  exact wpAny_pure (hQ _ ⟨fun b o _ e => k b o e, fun b hb => by cases List.mem_singleton.mp hb; exact ⟨_, k _ _ hit⟩⟩)
end
noncomputable def Iterish (o : Obj) : Prop := ∃ T vs, o.cls = .type T ∧ T ≠ "tuple" ∧ T ≠ "list" ∧ T ≠ "range" ∧ o.data = .fields vs
section
variable {G : Gd} {cx : Cx} {sc : Scope} {ρ : AEnv} {S : Addr → Prop} {h h' : Heap} {wr : List Addr}
theorem KB.carry (sh : ∀ b ∈ wr, ∃ o, h.get? b = some o ∧ Iterish o) (k : KB wr h h') : Carry S h S h' where
  tup := fun e hc hd => k.1 _ _ (fun m => by obtain ⟨o, e', T, vs, h1, h2, h3, h4, h5⟩ := sh _ m; rw [e] at e'; cases e'; rw [hc] at h1; cases h1; exact h2 rfl) e
  list := fun hs e hc hd => ⟨hs, k.1 _ _ (fun m => by obtain ⟨o, e', T, vs, h1, h2, h3, h4, h5⟩ := sh _ m; rw [e] at e'; cases e'; rw [hc] at h1; cases h1; exact h3 rfl) e⟩
  range := fun e => k.1 _ _ (fun m => by obtain ⟨o, e', T, vs, h1, h2, h3, h4, h5⟩ := sh _ m; unfold IsRange at e; rw [e] at e'; cases e'; cases h1; exact h4 rfl) e
  exc := fun e hc hn hd r => .exc (k.1 _ _ (fun m => by obtain ⟨o, e', T, vs, h1, h2, h3, h4, h5⟩ := sh _ m; rw [e] at e'; cases e'; rw [hc] at h1; cases h1) e) hc hn hd r
  dom := fun a o e' => by
    by_cases hb : a ∈ wr
    · exact k.2 a hb
    · exact ⟨o, k.1 a o hb e'⟩
  obj := fun s1 s2 e n => ⟨s1, s2, k.1 _ _ (fun m => by obtain ⟨o, e', T, vs, h1, h2, h3, h4, h5⟩ := sh _ m; rw [e] at e'; cases e'; cases h1) e, by
    obtain ⟨o, es, ep, ho, hd, q⟩ := n
    exact ⟨o, es, ep, k.1 _ _ (fun m => by obtain ⟨o', e', T, vs, _, _, _, _, h5⟩ := sh _ m; rw [ho] at e'; cases e'; rw [hd] at h5; cases h5) ho, hd, q⟩⟩
theorem RV.aside (sh : ∀ b ∈ wr, ∃ o, h.get? b = some o ∧ Iterish o) (k : KB wr h h') {v : Value} {d : D} (q : RV S h v d) : RV S h' v d := q.map (k.carry sh)
theorem RVs.aside (sh : ∀ b ∈ wr, ∃ o, h.get? b = some o ∧ Iterish o) (k : KB wr h h') {vs : List Value} {ds : List D} (q : RVs S h vs ds) : RVs S h' vs ds := q.map (k.carry sh)
theorem KB.dom (k : KB wr h h') {b : Addr} {o : Obj} (e : h.get? b = some o) : ∃ o', h'.get? b = some o' := by
  by_cases hb : b ∈ wr
  · exact k.2 b hb
  · exact ⟨o, k.1 b o hb e⟩
theorem Rel.aside (r : Rel G cx sc ρ S h) (sh : ∀ b ∈ wr, ∃ o, h.get? b = some o ∧ Iterish o) (new : ∀ b ∈ wr, cx.h₀.get? b = none ∧ G.B.get? b = none) (k : KB wr h h') : Rel G cx sc ρ S h' ∧ VarSame cx.env h h' := by
  have nw : ∀ (a : Addr) (o : Obj), h.get? a = some o → (∀ vs, o.data ≠ .fields vs) → a ∉ wr := fun a o e hd m => by
    obtain ⟨o', e', T, vs, _, _, _, _, q⟩ := sh a m
    rw [e] at e'; cases e'; exact hd vs q
  have nsame : ∀ m, h.Ns cx.env.locals m → h'.Ns cx.env.locals m := fun m n => by
    obtain ⟨o, es, ep, ho, hd, q⟩ := n
    exact ⟨o, es, ep, k.1 _ _ (nw _ _ ho (by rw [hd]; intro vs q; cases q)) ho, hd, q⟩
  have csame : ∀ c w, h.IsCell c w → h'.IsCell c w := fun c w n => by
    obtain ⟨o, ho, hd⟩ := n
    exact ⟨o, k.1 _ _ (nw _ _ ho (by rw [hd]; intro vs q; cases q)) ho, hd⟩
  have hb : VarSame cx.env h h' := fun y w q => by
    rcases q with ⟨a, m₁, b, c⟩ | ⟨a, c, b, d⟩
    · exact .inl ⟨a, m₁, nsame m₁ b, c⟩
    · exact .inr ⟨a, c, b, csame c _ d⟩
  have hf : ∀ y w, Var cx.env h' y w → Var cx.env h y w := fun y w q => by
    rcases q with ⟨a, m₁, b, c⟩ | ⟨a, c, b, d⟩
    · obtain ⟨m₀, n₀⟩ := r.ns
      exact .inl ⟨a, m₀, n₀, by rw [(nsame m₀ n₀).agree b y]; exact c⟩
    · obtain ⟨w₀, n₀⟩ := r.cells y c b
      exact .inr ⟨a, c, b, by rw [IsCell.inj d (csame c _ n₀)]; exact n₀⟩
  refine ⟨⟨fun b o q => k.1 b o (fun m => by rw [(new b m).2] at q; cases q) (r.base b o q), fun b o q => ?_, fun env he => ?_, let ⟨m, n⟩ := r.ns; ⟨m, nsame m n⟩, fun y c q => let ⟨w, n⟩ := r.cells y c q; ⟨w, csame c w n⟩, fun b q => let ⟨o, eo⟩ := r.sdom b q; k.dom eo, r.sok, r.sloc, r.scell, fun y b hdy q => let ⟨o, eo⟩ := r.live y b hdy (hf y _ q); k.dom eo, r.clean, fun v q => let ⟨C, e⟩ := r.hok v q; ⟨C, e.aside sh k⟩, fun j y u hy hu => ?_, fun j l y z m m' d d' u hy hz hj hl a b => r.inj j l y z m m' d d' u hy hz hj hl (hf y _ a) (hf z _ b), r.dok.back hf⟩, hb⟩
  · obtain ⟨sl, q₁, k₁⟩ := r.keep b o q
    exact ⟨sl, k.1 b _ (fun m => by rw [(new b m).1] at q; cases q) q₁, k₁⟩
  · obtain ⟨p, L, o, b, c, d, es, n, q⟩ := r.ff env he
    exact ⟨p, L, o, b, c, k.1 L o (nw _ _ d (by rw [q]; intro vs q; cases q)) d, es, n, q⟩
  · obtain ⟨w, hw', tw⟩ := r.vars j y u hy hu
    refine ⟨w, hb y w hw', ?_⟩
    cases u with
    | sh d => exact RV.aside sh k tw
    | ow m d =>
      obtain ⟨b, rfl, n1, ow, n2⟩ := tw
      refine ⟨b, rfl, n1, ?_, n2⟩
      exact ow.map (k.carry sh) fun o e hd => ⟨o.slots, k.1 b _ (nw _ _ e (by rcases hd with ⟨_, _, hd⟩ | ⟨_, _, hd⟩ <;> (rw [hd]; intro vs q; cases q))) e, fun _ => rfl⟩
theorem Ext.aside {S₀ : Addr → Prop} {h₀ : Heap} (x : Ext S₀ h₀ S h) (new : ∀ b ∈ wr, h₀.get? b = Option.none) (k : KB wr h h') : Ext S₀ h₀ S h' :=
  ⟨x.sub, fun b o e q => by
    obtain ⟨sl, e₁, k₁⟩ := x.keep b o e q
    exact ⟨sl, k.1 b _ (fun m => by rw [new b m] at e; cases e) e₁, k₁⟩, fun b o e => by
    obtain ⟨o', e'⟩ := x.dom b o e
    exact k.dom e'⟩
end
structure ItK (G : Gd) (A : Around) (tg : Expr) (I : Addr) (wr : List Addr) (St : Nat → (Addr → Prop) → Heap → Prop) (ds : List D) : Prop where
  shape : ∀ i S h, St i S h → ∀ b ∈ wr, ∃ o, h.get? b = some o ∧ Iterish o
  ext : ∀ i S h S' h', St i S h → Ext S h S' h' → St i S' h'
  item : ∀ i S (s : Shared) d (Q : Value → Shared → Prop) (E E' : Value → Shared → Prop), ds[i]? = some d → St i S s.heap →
    (∀ v h' tk, RV S h' v d → St (i + 1) S h' → KB wr s.heap h' → Q v { s with heap := h', toks := tk }) →
    wpAny G.M A (pyNext (.ref I)) (fun r s₁ => ∃ v, r = some v ∧ wpAny G.M A (letOwnedTupleGo tg (.ref I) v) (fun _ s₂ => Q v s₂) E' s₁) E s
  done : ∀ S (s : Shared) (Q : Option Value → Shared → Prop) (E : Value → Shared → Prop), St ds.length S s.heap → HOk A s.heap → (∀ v, A.handled = some v → ∀ b ∈ wr, v ≠ .ref b) →
    (∀ h' tk, KB wr s.heap h' → Q none { s with heap := h', toks := tk }) → wpAny G.M A (pyNext (.ref I)) Q E s
  self : ∀ i S (s : Shared) (Q : Value → Shared → Prop) (E : Value → Shared → Prop), St i S s.heap → Q (.ref I) s → wpAny G.M A (pyIter (.ref I)) Q E s
noncomputable def OutI (G : Gd) (cx : Cx) (sc : Scope) (tg : Expr) (S : Addr → Prop) (s : Shared) (Q : Value → Shared → Prop) (E : Value → Shared → Prop) : Res (List D) → Prop
  | .ok ds ρ' => ∀ (I : Addr) (wr : List Addr) (St : Nat → (Addr → Prop) → Heap → Prop) (S' : Addr → Prop) (h' : Heap) (tk : Nat), Rel G cx sc ρ' S' h' → ItK G cx.A tg I wr St ds → St 0 S' h' → (∀ b ∈ wr, s.heap.get? b = none) → Ext S s.heap S' h' → VarSame cx.env s.heap h' → Q (.ref I) { s with heap := h', toks := tk }
  | .exc C ρ' => ∀ e h' tk S', Rel G cx sc ρ' S' h' → Fly s.heap h' e C → Ext S s.heap S' h' → E (.ref e) { s with heap := h', toks := tk }
  | .stuck => False
noncomputable def SimI (G : Gd) (k : Nat) (sc : Scope) (tg e : Expr) (f : AEnv → Res (List D)) : Prop :=
  ∀ cx, CxOk G cx sc k → ∀ ρ S s, Rel G cx sc ρ S s.heap → ∀ Q E, OutI G cx sc tg S s Q E (f ρ) → wpAny G.M cx.A (eval e cx.env) (fun xv s₁ => wpAny G.M cx.A (pyIter xv) Q E s₁) E s
theorem KB.of_sameBut {a : Addr} {h h' : Heap} (k : Heap.SameBut a h h') (e : ∃ o, h'.get? a = some o) : KB [a] h h' := ⟨fun b o hb eb => (k.2 b (by simpa using hb)).trans eb, fun b hb => by rw [List.mem_singleton.mp hb]; exact e⟩
theorem owned_none {prog : Program} {w : World} {A : Around} {E : Value → Shared → Prop} {s : Shared} {tg : Expr} {I : Addr} {o : Obj} {T : String} {vs : Array Value} {v : Value} {Q : Unit → Shared → Prop} (ho : s.heap.get? I = some o) (hc : o.cls = .type T) (hd : o.data = .fields vs)
    (hT : ["enumerate", "zip", "dict_itemiterator", "dict_reverseitemiterator", "odict_iterator", "itertools.zip_longest", "itertools.pairwise"].contains T = false) (h : Q () s) : wpAny (model prog w) A (letOwnedTupleGo tg (.ref I) v) Q E s := by
  obtain ⟨c, d, dt, sl⟩ := o
  cases hc
  cases hd
  have hf : ∀ a, (["enumerate", "zip", "dict_itemiterator", "dict_reverseitemiterator", "odict_iterator", "itertools.zip_longest", "itertools.pairwise"].contains T && vs[0]? == some (rawInt a)) = false := fun a => by rw [hT]; rfl
  cases tg <;> first | exact wpAny_pure h | skip
  all_goals
    cases v <;> first | exact wpAny_pure h | skip
    rename_i a
    refine wpAny_bind (m := load I) (wpAny_load ho ?_)
    show wpAny _ _ (if (["enumerate", "zip", "dict_itemiterator", "dict_reverseitemiterator", "odict_iterator", "itertools.zip_longest", "itertools.pairwise"].contains T && vs[0]? == some (rawInt a)) = true then _ else _) Q E s
    rw [if_neg (by rw [hf]; decide)]
    exact wpAny_pure h
section
variable {G : Gd} {A : Around} {tg : Expr}
noncomputable def SeqSt (T : String) (It : String) (I l : Addr) (ds : List D) (i : Nat) (S : Addr → Prop) (h : Heap) : Prop :=
  (∃ o, h.get? I = some o ∧ o.cls = .type It ∧ o.data = .fields #[.ref l, .int i 0]) ∧ ∃ o vs n, h.get? l = some o ∧ o.cls = .type T ∧ o.data = .seq vs n ∧ RVs S h vs.toList ds ∧ (T = "list" → S l)
theorem SeqSt.ext {T It : String} {I l : Addr} {ds : List D} (hT : T = "list" ∨ T = "tuple") : ∀ i S h S' h', SeqSt T It I l ds i S h → Ext S h S' h' → SeqSt T It I l ds i S' h' := by
  rintro i S h S' h' ⟨⟨o, a1, a2, a3⟩, ol, vs, n, b1, b2, b3, b4, b5⟩ x
  refine ⟨⟨o, x.exact a1 (.inr (.inr ⟨_, a3⟩)) (.fields a3), a2, a3⟩, ol, vs, n, x.exact b1 ?_ (.seq b3), b2, b3, b4.ext x, fun q => x.sub _ (b5 q)⟩
  rcases hT with rfl | rfl
  · exact .inl (b5 rfl)
  · exact .inr (.inl ⟨b2, _, _, b3⟩)
theorem itK_list {I l : Addr} (hne : l ≠ I) (ds : List D) : ItK G A tg I [I] (SeqSt "list" "list_iterator" I l ds) ds where
  shape := fun i S h st b hb => by
    obtain ⟨⟨o, a1, a2, a3⟩, _⟩ := st
    exact ⟨o, by rw [List.mem_singleton.mp hb]; exact a1, _, _, a2, by decide, by decide, by decide, a3⟩
  ext := SeqSt.ext (.inl rfl)
  item := fun i S s d Q E E' hd st hQ => by
    obtain ⟨⟨o, a1, a2, a3⟩, ol, vs, n, b1, b2, b3, b4, b5⟩ := st
    obtain ⟨v, hv, rv⟩ := b4.get hd
    refine wpAny_pyNext_list_item ⟨o, a1, a2, a3⟩ ⟨ol, b1, b2, n, b3⟩ (by simpa using hv) fun h' it' k' => ⟨v, rfl, ?_⟩
    have it0 := it'
    obtain ⟨o', c1, c2, c3⟩ := it0
    have kb := KB.of_sameBut k' ⟨o', c1⟩
    have sh : ∀ b ∈ [I], ∃ o, s.heap.get? b = some o ∧ Iterish o := fun b hb => ⟨o, by rw [List.mem_singleton.mp hb]; exact a1, _, _, a2, by decide, by decide, by decide, a3⟩
    exact owned_none (s := { s with heap := h' }) c1 c2 c3 (by decide) (hQ v h' s.toks (rv.aside sh kb) ⟨⟨o', c1, c2, c3⟩, ol, vs, n, (k'.2 l hne).trans b1, b2, b3, b4.aside sh kb, b5⟩ kb)
  done := fun S s Q E st hh hni hQ => by
    obtain ⟨⟨o, a1, a2, a3⟩, ol, vs, n, b1, b2, b3, b4, b5⟩ := st
    exact listiter_next_end hh a1 a2 a3 b1 b3 (by have := b4.length; simp at this; simp [this]) (fun v e => hni v e I (.head _)) fun h' k => hQ h' s.toks k
  self := fun i S s Q E st hQ => by
    obtain ⟨⟨o, a1, a2, a3⟩, _⟩ := st
    exact wpAny_pyIter_listiter ⟨o, a1, a2, a3⟩ hQ
theorem itK_tuple {I l : Addr} (hne : l ≠ I) (ds : List D) : ItK G A tg I [I] (SeqSt "tuple" "tuple_iterator" I l ds) ds where
  shape := fun i S h st b hb => by
    obtain ⟨⟨o, a1, a2, a3⟩, _⟩ := st
    exact ⟨o, by rw [List.mem_singleton.mp hb]; exact a1, _, _, a2, by decide, by decide, by decide, a3⟩
  ext := SeqSt.ext (.inr rfl)
  item := fun i S s d Q E E' hd st hQ => by
    obtain ⟨⟨o, a1, a2, a3⟩, ol, vs, n, b1, b2, b3, b4, b5⟩ := st
    obtain ⟨v, hv, rv⟩ := b4.get hd
    refine next_tuple_item ⟨o, a1, a2, a3⟩ ⟨ol, b1, b2, n, b3⟩ (by simpa using hv) fun h' it' k' => ⟨v, rfl, ?_⟩
    have it0 := it'
    obtain ⟨o', c1, c2, c3⟩ := it0
    have kb := KB.of_sameBut k' ⟨o', c1⟩
    have sh : ∀ b ∈ [I], ∃ o, s.heap.get? b = some o ∧ Iterish o := fun b hb => ⟨o, by rw [List.mem_singleton.mp hb]; exact a1, _, _, a2, by decide, by decide, by decide, a3⟩
    exact owned_none (s := { s with heap := h' }) c1 c2 c3 (by decide) (hQ v h' s.toks (rv.aside sh kb) ⟨⟨o', c1, c2, c3⟩, ol, vs, n, (k'.2 l hne).trans b1, b2, b3, b4.aside sh kb, b5⟩ kb)
  done := fun S s Q E st hh hni hQ => by
    obtain ⟨⟨o, a1, a2, a3⟩, ol, vs, n, b1, b2, b3, b4, b5⟩ := st
    exact tupleiter_next_end hh a1 a2 a3 b1 b3 (by have := b4.length; simp at this; simp [this]) (fun v e => hni v e I (.head _)) fun h' k => hQ h' s.toks k
  self := fun i S s Q E st hQ => by
    obtain ⟨⟨o, a1, a2, a3⟩, _⟩ := st
    exact wpAny_pyIter_tupleiter ⟨o, a1, a2, a3⟩ hQ
noncomputable def RangeSt (I : Addr) (lo st : Int) (n : Nat) (i : Nat) (_ : Addr → Prop) (h : Heap) : Prop := IsRangeIter h I (lo + i * st) ((n : Int) - i) st
theorem itK_range {I : Addr} (lo st : Int) (n : Nat) : ItK G A tg I [I] (RangeSt I lo st n) ((List.range n).map fun (i : Nat) => D.int (lo + i * st)) where
  shape := fun i S h q b hb => by cases List.mem_singleton.mp hb; exact ⟨_, q, _, _, rfl, by decide, by decide, by decide, rfl⟩
  ext := fun i S h S' h' q x => x.exact q (.inr (.inr ⟨_, rfl⟩)) (.fields rfl)
  item := fun i S s d Q E E' hd q hQ => by
    have hi : i < n := by
      have := (List.getElem?_eq_some_iff.mp hd).1
      simpa using this
    have hdd : d = .int (lo + i * st) := by simp [hi] at hd; exact hd.symm
    subst hdd
    refine wpAny_pyNext_range_item q (by omega) fun h' it' k' => ⟨_, rfl, ?_⟩
    have q' : RangeSt I lo st n (i + 1) S h' := by
      unfold RangeSt
      have e1 : lo + (i : Int) * st + st = lo + ((i + 1 : Nat) : Int) * st := by rw [Int.natCast_add, Int.add_mul]; simp; omega
      have e2 : (n : Int) - i - 1 = (n : Int) - ((i + 1 : Nat) : Int) := by omega
      rw [← e1, ← e2]; exact it'
    exact owned_none (s := { s with heap := h', toks := s.toks + 1 }) it' rfl rfl (by decide) (hQ _ h' _ (.int _ _) q' (KB.of_sameBut k' ⟨_, it'⟩))
  done := fun S s Q E q hh hni hQ => by
    have q : IsRangeIter s.heap I _ _ _ := q
    exact next_range_end hh q (by simp) fun h' k => hQ h' s.toks k
  self := fun i S s Q E q hQ => wpAny_pyIter_rangeiter q hQ
end
noncomputable def itemsD : D → Option (List D)
  | .list ds => some ds
  | .tup ds => some ds
  | .range lo hi st => if rangeFit lo hi st then some (rangeL lo hi st) else none
  | _ => none
noncomputable def eItems (f : AEnv → Res T) : AEnv → Res (List D) := fun ρ => (f ρ).bind fun t ρ₁ => match itemsD t.val with
  | some ds => .ok ds ρ₁
  | none => .stuck
theorem simI_of {G : Gd} {k : Nat} {sc : Scope} {tg e : Expr} {f : AEnv → Res T} (h : Sim G k sc e f) : SimI G k sc tg e (eItems f) := by
  intro cx ok ρ S s r Q E out
  refine (h cx ok ρ S s r).shared _ _ ?_
  unfold eItems at out
  cases hf : f ρ with
  | stuck => rw [hf] at out; exact out.elim
  | exc C ρ₁ => rw [hf] at out; exact out
  | ok t ρ₁ =>
    rw [hf] at out
    simp only [Res.bind] at out ⊢
    intro v h₁ t₁ S₁ r₁ j₁ x₁ v₁
    have nw : ∀ b ∈ [h₁.objs.size], s.heap.get? b = none := fun b hb => by
      rw [List.mem_singleton.mp hb]
      exact x₁.none (Heap.get?_none_of_le (Nat.le_refl _))
    cases hd : itemsD t.val with
    | none => rw [hd] at out; exact out.elim
    | some ds =>
      rw [hd] at out
      simp only at out
      unfold itemsD at hd
      split at hd
      · rename_i ds' e
        cases hd
        rw [e] at j₁
        cases j₁ with
        | list hs e1 e2 e3 q =>
          rename_i a o vs n
          refine wpAny_pyIter_list (s := { s with heap := h₁, toks := t₁ }) ⟨o, e1, e2.1, n, e3⟩ ?_
          have hne : a ≠ h₁.objs.size := fun e => by rw [e, Heap.get?_none_of_le (Nat.le_refl _)] at e1; cases e1
          exact out _ [h₁.objs.size] _ S₁ _ t₁ (Rel.push (s := { s with heap := h₁ }) r₁ _) (itK_list hne ds) ⟨⟨_, Heap.get?_push_size _ rfl, rfl, rfl⟩, o, vs, n, Heap.get?_push_of_some _ e1, e2.1, e3, q.ext (ext_push _), fun _ => hs⟩ nw (x₁.trans (ext_push _)) ((v₁ rfl).trans (r₁.same (kp_push _)))
      · rename_i ds' e
        cases hd
        rw [e] at j₁
        cases j₁ with
        | tup e1 e2 e3 q =>
          rename_i a o vs n
          refine iter_tuple (s := { s with heap := h₁, toks := t₁ }) ⟨o, e1, e2, n, e3⟩ ?_
          have hne : a ≠ h₁.objs.size := fun e => by rw [e, Heap.get?_none_of_le (Nat.le_refl _)] at e1; cases e1
          exact out _ [h₁.objs.size] _ S₁ _ t₁ (Rel.push (s := { s with heap := h₁ }) r₁ _) (itK_tuple hne ds) ⟨⟨_, Heap.get?_push_size _ rfl, rfl, rfl⟩, o, vs, n, Heap.get?_push_of_some _ e1, e2, e3, q.ext (ext_push _), fun q => absurd q (by decide)⟩ nw (x₁.trans (ext_push _)) ((v₁ rfl).trans (r₁.same (kp_push _)))
      · rename_i lo hi st e
        rw [e] at j₁
        split at hd
        · rename_i hf
          cases hd
          obtain ⟨f1, f2, f3⟩ := rangeFit_n hf
          cases j₁ with
          | range hr =>
            refine wpAny_pyIter_range (s := { s with heap := h₁, toks := t₁ }) hr f1 ?_
            refine out _ [h₁.objs.size] _ S₁ _ t₁ (Rel.push (s := { s with heap := h₁ }) r₁ _) (itK_range lo st (rangeN lo hi st)) ?_ nw (x₁.trans (ext_push _)) ((v₁ rfl).trans (r₁.same (kp_push _)))
            show IsRangeIter _ _ _ _ _
            rw [f2]
            simpa using Heap.get?_push_size _ rfl
        · cases hd
      · cases hd
end Mine
end

section
set_option Elab.async false
set_option maxRecDepth 100000
namespace Mine
open PySem PyProof.Rows
noncomputable def OwnName (cx : Cx) (sc : Scope) (x : Str) : Prop := sc.names.lookup x = some .local ∨ (sc.names.lookup x = some .cell ∧ ∃ c, cx.env.cells.lookup x = some c ∧ cx.h₀.get? c = none)
noncomputable def SimA (G : Gd) (sc : Scope) (tg : Expr) (xs : List Str) (b : D → AEnv → Option AEnv) : Prop :=
  ∀ cx k, CxOk G cx sc k → FnCx G cx → (∀ x ∈ xs, OwnName cx sc x) → ∀ ρ S s v d ρ', Rel G cx sc ρ S s.heap → RV S s.heap v d → b d ρ = some ρ' → Does G cx sc false (assign tg cx.env v) S s (fun _ _ _ (_ : Unit) => True) (.ok () ρ')
noncomputable def bName (i : Nat) : D → AEnv → Option AEnv := fun d ρ => some (ρ.set i (some (.sh d)))
theorem simA_name {G : Gd} {sc : Scope} {x : Str} {p : Pos} {i : Nat} (hx : (varNames sc)[i]? = some x) : SimA G sc (.Name x p) [x] (bName i) := by
  intro cx k ok fn hn ρ S s v d ρ' r q e
  cases e
  rw [PySem.assign_Name]
  exact Does.standAt ((does_store (ok.mono (Nat.zero_le _)) fn r hx (hn x (.head _)) (.inr ⟨d, rfl⟩) (t := .sh d) q).wp fun Q E h => wpAny_bindName h)
noncomputable def bNames : List Nat → List D → AEnv → Option AEnv
  | [], [], ρ => some ρ
  | i :: is, d :: ds, ρ => bNames is ds (ρ.set i (some (.sh d)))
  | _, _, _ => none
noncomputable def bTuple (is : List Nat) : D → AEnv → Option AEnv
  | .tup ds, ρ => if ds.length = is.length then bNames is ds ρ else none
  | _, _ => none
inductive Names (sc : Scope) : List Expr → List Str → List Nat → Prop
  | nil : Names sc [] [] []
  | cons {x : Str} {p : Pos} {i : Nat} {es : List Expr} {xs : List Str} {is : List Nat} : (varNames sc)[i]? = some x → Names sc es xs is → Names sc (.Name x p :: es) (x :: xs) (i :: is)
theorem Names.each {sc : Scope} {es : List Expr} {xs : List Str} {is : List Nat} (h : Names sc es xs is) (env : Env) : (assignEach es env).length = is.length ∧ (assignEach es env).findIdx? (·.1) = none := by
  induction h with
  | nil => exact ⟨rfl, rfl⟩
  | cons _ _ ih =>
    obtain ⟨l, f⟩ := ih
    refine ⟨congrArg (· + 1) l, ?_⟩
    show List.findIdx? (·.1) ((false, _) :: assignEach _ env) = none
    rw [List.findIdx?_cons, f]; rfl
theorem does_inOrder {G : Gd} {sc : Scope} {cx : Cx} {k : Nat} (ok : CxOk G cx sc k) (fn : FnCx G cx) {es : List Expr} {xs : List Str} {is : List Nat} (h : Names sc es xs is) : (∀ x ∈ xs, OwnName cx sc x) → ∀ {vs : List Value} {ds : List D} {ρ ρ' : AEnv} {S : Addr → Prop} {s : Shared}, Rel G cx sc ρ S s.heap → RVs S s.heap vs ds → bNames is ds ρ = some ρ' →
    Does G cx sc false (assignInOrder ((assignEach es cx.env).map (·.2)) vs) S s (fun _ _ _ (_ : Unit) => True) (.ok () ρ') := by
  induction h with
  | nil =>
    intro _ vs ds ρ ρ' S s r q e
    cases q with
    | nil => cases e; exact Does.pure r trivial
    | cons _ _ => cases e
  | cons hx _ ih =>
    intro hn vs ds ρ ρ' S s r q e
    cases q with
    | nil => cases e
    | cons q1 q2 =>
      intro Q E out
      refine assignInOrder_cons (simA_name hx cx k ok fn (fun y hy => by rw [List.mem_singleton.mp hy]; exact hn _ (.head _)) ρ S s _ _ _ r q1 rfl _ _ ?_)
      intro _ h₁ t₁ S₁ r₁ _ x₁ _
      refine ih (fun y hy => hn y (.tail _ hy)) (s := { s with heap := h₁, toks := t₁ }) r₁ (q2.ext x₁) e _ _ ?_
      intro _ h₂ t₂ S₂ r₂ _ x₂ _
      exact out () h₂ t₂ S₂ r₂ trivial (x₁.trans x₂) fun z => by cases z
section
variable {prog : Program} {w : World} {A : Around} {E : Value → Shared → Prop} {s : Shared}
theorem unpackItems_any {t : Addr} {items : Array Value} {Q : List Value → Shared → Prop} (hh : HOk A s.heap) (ht : IsTup s.heap t items)
    (hQ : ∀ h', (∀ b o, s.heap.get? b = some o → h'.get? b = some o) → Q items.toList { s with heap := h' }) : wpAny (model prog w) A (unpackItems (.ref t) items.size none) Q E s := by
  have hlt : t ≠ s.heap.objs.size := by obtain ⟨o, ho, _⟩ := ht; exact Nat.ne_of_lt (Heap.lt_size ho)
  unfold unpackItems
  refine wpAny_bind ?_
  · unfold notIterableAtAll
    refine wpAny_bind (wpAny_specialOf ht.typeIs slot_tuple_iter.lookup ?_)
    refine wpAny_pure ?_
    simp only [Bool.false_eq_true, if_false]
    refine wpAny_bind (wpAny_holding (iter_tuple ht ?_))
    refine wpAny_bind (wpAny_holding (draw_tuple hlt items.size 0 _ _ ⟨_, Heap.get?_push_size _ rfl, rfl, rfl⟩ (ht.push _) (by omega) fun h₁ hit₁ hs₁ => ?_))
    have hall : List.take items.size (List.drop 0 items.toList) = items.toList := by
      rw [List.drop_zero]; exact List.take_of_length_le (by simp)
    rw [hall]
    rw [if_neg (by simp)]
    have ht₁ : IsTup h₁ t items := (ht.push _).extBut hs₁.extBut hlt
    obtain ⟨oi, i1, i2, i3⟩ := hit₁
    obtain ⟨ot, t1, t2, nt, t3⟩ := ht₁
    have keep : ∀ b o, s.heap.get? b = some o → h₁.get? b = some o := fun b o e => hs₁.extBut b o (Nat.ne_of_lt (Heap.lt_size e)) (Heap.get?_push_of_some _ e)
    refine wpAny_bind (wpAny_holding (tupleiter_next_end (s := { s with heap := h₁ }) (hh.keeps fun b o vs e hd h2 => ⟨o, vs, keep b o e, hd, h2⟩) i1 i2 i3 t1 t3 (by simp) (fun v hv => ?_) fun h₂ k₂ => ?_))
    · obtain ⟨a, o, vs, rfl, h1, _⟩ := hh v hv
      intro q
      cases q
      exact absurd (Heap.lt_size h1) (Nat.lt_irrefl _)
    simp only [Option.isSome_none, Bool.false_eq_true, if_false]
    refine wpAny_pure (hQ h₂ fun b o e => k₂.1 b o (by simp; exact Nat.ne_of_lt (Heap.lt_size e)) (keep b o e))
end
theorem simA_tuple {G : Gd} {sc : Scope} {es : List Expr} {xs : List Str} {is : List Nat} {n : Nat} {p : Pos} (h : Names sc es xs is) : SimA G sc (.Tuple es n p) xs (bTuple is) := by
  intro cx k ok fn hn ρ S s v d ρ' r q e
  unfold bTuple at e
  split at e
  · rename_i ds
    split at e
    · rename_i hl
      cases q with
      | tup e1 e2 e3 q =>
        rename_i a o vs m
        rw [assign_Tuple]
        refine Does.standAt ?_
        intro Q E out
        unfold unpack
        obtain ⟨l, f⟩ := h.each cx.env
        have hsz : vs.size = ds.length := by rw [← q.length]; simp
        rw [l, f, ← hl, ← hsz]
        refine wpAny_bind (wpAny_holding (unpackItems_any r.hOk ⟨o, e1, e2, m, e3⟩ fun h' hk => ?_))
        obtain ⟨r', x', v'⟩ := r.keepsE hk
        refine does_inOrder ok fn h hn (s := { s with heap := h' }) r' (q.ext x') e _ _ ?_
        intro _ h₂ t₂ S₂ r₂ _ x₂ _
        exact out () h₂ t₂ S₂ r₂ trivial (x'.trans x₂) fun z => by cases z
    · cases e
  · cases e
noncomputable def forN (b : D → AEnv → Option AEnv) (body : AEnv → Res Fl) : List D → AEnv → Res Fl
  | [], ρ => .ok .next ρ
  | d :: ds, ρ => match b d ρ with
    | none => .stuck
    | some ρ₁ => (body ρ₁).bind fun fl ρ₂ => match fl with
      | .next => forN b body ds ρ₂
      | .cont => forN b body ds ρ₂
      | .brk => .ok .next ρ₂
      | .ret t => .ok (.ret t) ρ₂
noncomputable def sFor (src : AEnv → Res (List D)) (b : D → AEnv → Option AEnv) (body : AEnv → Res Fl) : AEnv → Res Fl := fun ρ => (src ρ).bind fun ds ρ₁ => forN b body ds ρ₁
theorem drop_cons_of {α : Type} {l : List α} {i : Nat} {d : α} (h : l[i]? = some d) : l.drop i = d :: l.drop (i + 1) := by
  obtain ⟨h1, rfl⟩ := List.getElem?_eq_some_iff.mp h
  exact List.drop_eq_getElem_cons h1
theorem hni_of {A : Around} {h : Heap} (hh : HOk A h) {wr : List Addr} (new : ∀ b ∈ wr, h.get? b = none) : ∀ v, A.handled = some v → ∀ b ∈ wr, v ≠ .ref b := fun v hv b hb q => by
  obtain ⟨a, o, vs, rfl, h1, _⟩ := hh v hv
  cases q
  rw [new _ hb] at h1; cases h1
section
variable {G : Gd} {k : Nat} {sc : Scope}
theorem simS_For {tg iter : Expr} {body : List Stmt} {pos : Pos} {src : AEnv → Res (List D)} {xs : List Str} {b : D → AEnv → Option AEnv} {f : AEnv → Res Fl} (hi : SimI G k sc tg iter src) (ht : SimA G sc tg xs b) (hxs : ∀ x ∈ xs, sc.names.lookup x = some .local ∨ sc.names.lookup x = some .cell) (hb : SimSs G k sc body f)
    (hs : ∀ env x, foldedSetIterable iter env x = pure x) : SimS G k sc (.For tg iter body [] pos) (sFor src b f) := by
  intro cx ok fn ρ S s r Q E out
  refine wpAny_For ?_ (hs cx.env)
  refine hi cx ok ρ S s r _ _ ?_
  unfold sFor at out
  cases hsrc : src ρ with
  | stuck => rw [hsrc] at out; exact out.elim
  | exc C ρ₁ => rw [hsrc] at out; exact out
  | ok ds ρ₁ =>
    rw [hsrc] at out
    simp only [Res.bind] at out
    intro I wr St S₁ h₁ t₁ r₁ it st₁ nw x₁ v₁
    have hn : ∀ x ∈ xs, OwnName cx sc x := fun x hx => (hxs x hx).imp id fun q => ⟨q, fn.has x (by unfold Env.kindOf; rw [ok.hsc]; exact q)⟩
    have new : ∀ b ∈ wr, cx.h₀.get? b = none ∧ G.B.get? b = none := fun b hb => ⟨r.keep.none (nw b hb), by
      cases q : G.B.get? b with
      | none => rfl
      | some o => have := r.base b o q; rw [nw b hb] at this; cases this⟩
    have err : ∀ {C : Addr} {ρ' : AEnv} {e : Addr} {h' : Heap} {tk : Nat} {S' : Addr → Prop}, Out G cx sc false S s (fun S' h' a b => FlJ cx S' h' a b) Q E (.exc C ρ') → Rel G cx sc ρ' S' h' → Fly s.heap h' e C → Ext S s.heap S' h' → notedBy G.M cx.A cx.env (fun e s' => cameBackBy G.M cx.A cx.env E e s') (.ref e) { s with heap := h', toks := tk } := by
      intro C ρ' e h' tk S' o r' f' x'
      refine noted_out ok r r' x' f' ⟨h', tk, rfl⟩ fun h₂ t₂ r₂ f₂ x₂ => ?_
      exact came_out r r₂ x₂ f₂ ⟨h₂, t₂, rfl⟩ fun h₃ t₃ r₃ f₃ x₃ => o e h₃ t₃ S' r₃ f₃.fly x₃
    obtain ⟨Inv, hI⟩ : ∃ Inv : Nat → Shared → Prop, ∀ m s', Inv m s' ↔ ∃ i ρ' S' h' tk, m = ds.length + 1 - i ∧ i ≤ ds.length ∧ s' = { s with heap := h', toks := tk } ∧ Rel G cx sc ρ' S' h' ∧ St i S' h' ∧ Ext S s.heap S' h' ∧ Out G cx sc false S s (fun S' h' a b => FlJ cx S' h' a b) Q E (forN b f (ds.drop i) ρ') := ⟨_, fun _ _ => Iff.rfl⟩
    refine codeAny_forLoop_any Inv ?_ (ds.length + 1) ((hI _ _).mpr ⟨0, ρ₁, S₁, h₁, t₁, rfl, Nat.zero_le _, rfl, r₁, st₁, x₁, by rw [List.drop_zero]; exact out⟩)
    generalize (notedBy G.M cx.A cx.env fun e s' => cameBackBy G.M cx.A cx.env E e s') = EN at err ⊢
    intro m s' hinv
    obtain ⟨i, ρ', S', h', tk, rfl, hi', rfl, r', st', x', out'⟩ := (hI _ _).mp hinv
    by_cases hlt : i < ds.length
    · have hd : ds[i]? = some ds[i] := List.getElem?_eq_getElem hlt
      rw [drop_cons_of hd] at out'
      rw [forN] at out'
      cases hbd : b ds[i] ρ' with
      | none => rw [hbd] at out'; exact out'.elim
      | some ρ₂ =>
        rw [hbd] at out'
        simp only at out'
        refine wpAny_mono (it.item i S' { s with heap := h', toks := tk } ds[i] _ _ EN hd st' fun v h₂ t₂ rv st₂ kb => (?_ : (fun v s₂ => wpAny G.M cx.A (assign tg cx.env v) (fun _ s₂ => wpAny G.M cx.A (execs body cx.env) (fun f s₃ => match f with
            | .next | .cont => ∃ m', m' < ds.length + 1 - i ∧ Inv m' s₃
            | .brk => Q .next s₃
            | .ret v => Q (.ret v) s₃) EN s₂) EN s₂) v _)) (fun rr s₁ h₁ => by
              obtain ⟨v, rfl, h₁⟩ := h₁
              exact h₁) fun _ _ e => e
        obtain ⟨r₂, v₂⟩ := r'.aside (it.shape i S' h' st') new kb
        have x₂ := x'.aside nw kb
        refine ht cx k ok fn.toFnCx hn ρ' S' { s with heap := h₂, toks := t₂ } v ds[i] ρ₂ r₂ rv hbd _ _ ?_
        intro _ h₃ t₃ S₃ r₃ _ x₃ _
        have st₃ := it.ext _ _ _ _ _ st₂ x₃
        refine hb cx ok fn ρ₂ S₃ { s with heap := h₃, toks := t₃ } r₃ _ _ ?_
        cases hf : f ρ₂ with
        | stuck => rw [hf] at out'; exact out'.elim
        | exc C ρ₃ =>
          rw [hf] at out'
          intro e h₄ t₄ S₄ r₄ f₄ x₄
          exact err out' r₄ (f₄.back (x₂.trans x₃)) ((x₂.trans x₃).trans x₄)
        | ok fl ρ₃ =>
          rw [hf] at out'
          simp only [Res.bind] at out'
          intro a h₄ t₄ S₄ r₄ j₄ x₄ _
          have st₄ := it.ext _ _ _ _ _ st₃ x₄
          have xx := (x₂.trans x₃).trans x₄
          cases a <;> cases fl <;> first
            | exact j₄.elim
            | exact ⟨ds.length + 1 - (i + 1), by omega, (hI _ _).mpr ⟨i + 1, ρ₃, S₄, h₄, t₄, rfl, hlt, rfl, r₄, st₄, xx, out'⟩⟩
            | exact out' _ h₄ t₄ S₄ r₄ j₄ xx fun q => by cases q
    · have hie : i = ds.length := by omega
      subst hie
      rw [List.drop_length] at out'
      refine it.done S' { s with heap := h', toks := tk } _ _ st' r'.hOk (hni_of r.hOk nw) fun h₂ t₂ kb => ?_
      obtain ⟨r₂, v₂⟩ := r'.aside (it.shape _ S' h' st') new kb
      exact wpAny_execs_nil (out' .next h₂ t₂ S' r₂ trivial (x'.aside nw kb) fun q => by cases q)
end
end Mine
end

section
set_option Elab.async false
set_option maxRecDepth 100000
namespace Mine
open PySem PyProof.Rows
section
variable {prog : Program} {w : World} {A : Around} {E : Value → Shared → Prop} {s : Shared}
theorem tuple_nextOf_item {it l : Addr} {i : Nat} {items} {x : Value} {Q : Value → Shared → Prop} (hit : IsTupIter s.heap it l i) (hl : IsTup s.heap l items) (hx : items[i]? = some x)
    (hQ : ∀ h', IsTupIter h' it l (i + 1) → Heap.SameBut it s.heap h' → Q x { s with heap := h' }) : wpAny (model prog w) A (Builtin.SmallTypes.nextOf (.ref it)) Q E s := by
  obtain ⟨o, ho, hc, hd⟩ := id hit
  obtain ⟨ol, hol, _, nl, hdl⟩ := hl
  unfold Builtin.SmallTypes.nextOf
  refine wpAny_bind (wpAny_callSpecial?_slot (name := Str.ofString "__next__") hit.typeIs slot_tupleiter_next
    (wpAny_call_entry slot_tupleiter_next hit.typeIs entry_tupleiter_next ?_ (args_tupleiter_next _)))
  show wpAny _ _ (field (.ref it) 0 >>= _) _ _ s
  refine wpAny_bind (wpAny_field ho hd (x := .ref l) rfl ?_)
  show wpAny _ _ (if (Value.ref l == Value.none) = true then _ else _) _ _ s
  rw [if_neg (show ¬ ((Value.ref l == Value.none) = true) from Bool.false_ne_true)]
  show wpAny _ _ (field (.ref it) 1 >>= _) _ _ s
  refine wpAny_bind (wpAny_field ho hd (x := .int i 0) rfl ?_)
  show wpAny _ _ (seqItems? (.ref l) >>= _) _ _ s
  refine wpAny_bind (wpAny_seqItems hol hdl ?_)
  simp only [Int.toNat_natCast, hx]
  refine wpAny_bind (wpAny_setField ho hd (by simp) (wpAny_pure ⟨x, rfl, wpAny_pure (hQ _ ?_ (Heap.SameBut.update ..))⟩))
  exact ⟨_, Heap.get?_update_self _ ho (Obj.isFreed_of_fields (Obj.data_mapFields hd _)), (Obj.cls_mapFields ..).trans hc, by
    rw [Obj.data_mapFields hd]; simp [rawInt]⟩
theorem tuple_nextOf_end {it l : Addr} {i : Nat} {items} {Q : Value → Shared → Prop} (hh : HOk A s.heap) (hni : ∀ v, A.handled = some v → v ≠ .ref it) (hit : IsTupIter s.heap it l i) (hl : IsTup s.heap l items) (hx : items[i]? = none)
    (hE : ∀ h' e, KB [it] s.heap h' → (∃ o, h'.get? e = some o ∧ o.cls = .type "StopIteration") → E (.ref e) { s with heap := h' }) : wpAny (model prog w) A (Builtin.SmallTypes.nextOf (.ref it)) Q E s := by
  obtain ⟨o, ho, hc, hd⟩ := id hit
  obtain ⟨ol, hol, _, nl, hdl⟩ := hl
  unfold Builtin.SmallTypes.nextOf
  refine wpAny_bind (wpAny_callSpecial?_slot (name := Str.ofString "__next__") hit.typeIs slot_tupleiter_next
    (wpAny_call_entry slot_tupleiter_next hit.typeIs entry_tupleiter_next ?_ (args_tupleiter_next _)))
  exact tupleiter_tree_end (A := A.in1) hh ho hd hol hdl hx hni hE
theorem list_nextOf_end {it l : Addr} {i : Nat} {items} {Q : Value → Shared → Prop} (hh : HOk A s.heap) (hni : ∀ v, A.handled = some v → v ≠ .ref it) (hit : s.heap.IsListIter it l i) (hl : s.heap.IsList l items) (hx : items[i]? = none)
    (hE : ∀ h' e, KB [it] s.heap h' → (∃ o, h'.get? e = some o ∧ o.cls = .type "StopIteration") → E (.ref e) { s with heap := h' }) : wpAny (model prog w) A (Builtin.SmallTypes.nextOf (.ref it)) Q E s := by
  obtain ⟨o, ho, hc, hd⟩ := id hit
  obtain ⟨ol, hol, _, nl, hdl⟩ := hl
  unfold Builtin.SmallTypes.nextOf
  refine wpAny_bind (wpAny_callSpecial?_slot (name := Str.ofString "__next__") hit.typeIs slot_listiter_next
    (wpAny_call_entry slot_listiter_next hit.typeIs entry_listiter_next ?_ (args_listiter_next _)))
  exact listiter_tree_end (A := A.in1) hh ho hd hol hdl hx hni hE
end
theorem KB.ext {a : Addr} {h h' : Heap} (k : KB [a] h h') : Heap.ExtBut a h h' := fun b o hb e => k.1 b o (by simpa using hb) e
theorem draws_tuple {prog : Program} {w : World} {A : Around} (hh : A.handled = none) (it l : Addr) (hne : l ≠ it) (items : Array Value) :
    Draws prog w A it [it, l] items.size (fun i v => items[i]? = some v) (fun i h => IsTupIter h it l i ∧ IsTup h l items) where
  live := fun _ _ st => let ⟨o, ho, _⟩ := st.1; ⟨o, ho⟩
  frame := fun _ _ _ st hk => ⟨let ⟨o, ho, r⟩ := st.1; ⟨o, hk it (by simp) o ho, r⟩, let ⟨o, ho, r⟩ := st.2; ⟨o, hk l (by simp) o ho, r⟩⟩
  item := fun i s Q E hi st hQ => by
    refine tuple_nextOf_item st.1 st.2 (x := items[i]) (by simp [hi]) fun h' hit' hs' => ?_
    exact hQ _ h' s.toks (by simp [hi]) ⟨hit', st.2.extBut hs'.extBut hne⟩ hs'
  done := fun s Q E st hE => tuple_nextOf_end (fun v e => by rw [hh] at e; cases e) (fun v e => by rw [hh] at e; cases e) st.1 st.2 (by simp) fun h' e k he => hE h' e k.ext he
open AutoSeq1 (wpAny_loadPart') in
theorem meets_enumerate_newT (l : Addr) (items : Array Value) (n : Nat) (dct : Option Addr) (sl : Array (Option Value)) :
    Meets (Builtin.«enumerate.__new__» ⟨[.type "enumerate", .ref l], []⟩) (fun _ R s => s.heap.get? l = some { cls := .type "tuple", dict := dct, data := .seq items n, slots := sl } ∧
      R (.ok (.ret (.ref (s.heap.push { cls := .type "tuple_iterator", data := .fields #[.ref l, .int 0 0] }).objs.size)))
        { s with heap := (s.heap.push { cls := .type "tuple_iterator", data := .fields #[.ref l, .int 0 0] }).push { cls := .type "enumerate", data := .fields #[.none, .bool false, .ref s.heap.objs.size, rawInt 0, .none, .none] } }) :=
  .of_wp fun prog w A R s h => by
    obtain ⟨hp, g, d, tk, os⟩ := s; obtain ⟨hl, h⟩ := h
    have hsub := sub_enumerate
    have hL : IsTup (Shared.heap ⟨hp, g, d, tk, os⟩) l items := ⟨_, hl, rfl, n, rfl⟩
    wp_walk using wpAny_loadPart' hl
    refine wpAny_stack_any fun st => wpAny_pure ?_
    split
    · rename_i c _ _ _ _ _
      cases (c == Value.type "enumerate")
      · wp_walk using wpAny_loadPart' hl, iter_tuple hL
        exact ⟨_, rfl, h⟩
      · wp_walk using wpAny_loadPart' hl, iter_tuple hL
        exact ⟨_, rfl, h⟩
    · wp_walk using wpAny_loadPart' hl, iter_tuple hL
      exact ⟨_, rfl, h⟩
theorem call_enumerate_tuple {prog : Program} {w : World} {A : Around} {E : Value → Shared → Prop} {s : Shared} {l : Addr} {items : Array Value} {Q : Value → Shared → Prop} (hL : IsTup s.heap l items)
    (h : ∀ h', IsEnum h' (s.heap.objs.size + 1) s.heap.objs.size 0 .none → IsTupIter h' s.heap.objs.size l 0 → (∀ b o, s.heap.get? b = some o → h'.get? b = some o) → Q (.ref (s.heap.objs.size + 1)) { s with heap := h' }) :
    wpAny (model prog w) A (call (.type "enumerate") [.ref l]) Q E s := by
  obtain ⟨⟨c, dct, dt, sl⟩, hl, hc, n, hd⟩ := hL
  replace hc : c = .type "tuple" := hc
  replace hd : dt = .seq items n := hd
  subst hc hd
  refine callType_new F.called_enumerate (by decide) (F.typeCall_enumerate_1 _) (F.newCall_enumerate_1 _) (fun obj => F.args_object_init_2 obj _) F.entry_enumerate_new
    (meets_enumerate_newT l items n dct sl) ⟨hl, ?_⟩
  have hz : (s.heap.push { cls := .type "tuple_iterator", data := .fields #[.ref l, .int 0 0] }).objs.size = s.heap.objs.size + 1 := Heap.size_push ..
  show _ ∧ _
  rw [hz]
  have he : IsEnum ((s.heap.push { cls := .type "tuple_iterator", data := .fields #[.ref l, .int 0 0] }).push
      { cls := .type "enumerate", data := .fields #[.none, .bool false, .ref s.heap.objs.size, rawInt 0, .none, .none] }) (s.heap.objs.size + 1) s.heap.objs.size 0 .none := by
    have := Heap.get?_push_size (s.heap.push { cls := .type "tuple_iterator", data := .fields #[.ref l, .int 0 0] })
      (o := { cls := .type "enumerate", data := .fields #[.none, .bool false, .ref s.heap.objs.size, rawInt 0, .none, .none] }) rfl
    rw [hz] at this; exact this
  exact ⟨⟨_, he, rfl⟩, h _ he ⟨_, Heap.get?_push_of_some _ (Heap.get?_push_size _ rfl), rfl, rfl⟩ fun b o x => Heap.get?_push_of_some _ (Heap.get?_push_of_some _ x)⟩
noncomputable def enumL (ds : List D) : List D := ds.zipIdx.map fun x => .tup [.int x.2, x.1]
theorem enumL_get {ds : List D} {i : Nat} {d : D} (h : (enumL ds)[i]? = some d) : ∃ e, ds[i]? = some e ∧ d = .tup [.int i, e] := by
  unfold enumL at h
  rw [List.getElem?_map] at h
  obtain ⟨x, hx, rfl⟩ := Option.map_eq_some_iff.mp h
  rw [List.getElem?_zipIdx] at hx
  obtain ⟨e, he, rfl⟩ := Option.map_eq_some_iff.mp hx
  exact ⟨e, he, by simp⟩
noncomputable def EnumSt (T It : String) (e it l : Addr) (ds : List D) (i : Nat) (S : Addr → Prop) (h : Heap) : Prop := (∃ old, IsEnum h e it i old) ∧ SeqSt T It it l ds i S h
section
variable {G : Gd} {A : Around} {es : List Expr} {n : Nat} {p : Pos}
theorem enum_shape {T It : String} {e it l : Addr} {ds : List D} (hIt : It ≠ "tuple" ∧ It ≠ "list" ∧ It ≠ "range") : ∀ i S h, EnumSt T It e it l ds i S h → ∀ b ∈ [e, it], ∃ o, h.get? b = some o ∧ Iterish o := by
  rintro i S h ⟨⟨old, he⟩, ⟨o, a1, a2, a3⟩, _⟩ b hb
  rcases List.mem_cons.mp hb with rfl | hb
  · exact ⟨_, he, _, _, rfl, by decide, by decide, by decide, rfl⟩
  · rw [List.mem_singleton.mp hb]
    exact ⟨o, a1, _, _, a2, hIt.1, hIt.2.1, hIt.2.2, a3⟩
theorem itK_enumT {e it l : Addr} (hh : A.handled = none) (hei : e ≠ it) (hle : l ≠ e) (hli : l ≠ it) (ds : List D) : ItK G A (.Tuple es n p) e [e, it] (EnumSt "tuple" "tuple_iterator" e it l ds) (enumL ds) where
  shape := enum_shape (by decide)
  ext := fun i S h S' h' st x => ⟨let ⟨old, he⟩ := st.1; ⟨old, x.exact he (.inr (.inr ⟨_, rfl⟩)) (.fields rfl)⟩, SeqSt.ext (.inr rfl) i S h S' h' st.2 x⟩
  item := fun i S s d Q E E' hd st hQ => by
    obtain ⟨x, hx, rfl⟩ := enumL_get hd
    have sh := enum_shape (by decide) i S s.heap st
    obtain ⟨⟨old, he⟩, ⟨o, a1, a2, a3⟩, ol, vs, m, b1, b2, b3, b4, b5⟩ := st
    obtain ⟨v, hv, rv⟩ := b4.get hx
    have hi : i < vs.size := by
      have := (List.getElem?_eq_some_iff.mp hv).1
      simpa using this
    refine wpAny_pyNext_enum_itemD (draws_tuple (A := A.in1) hh it l hli vs) he ⟨⟨o, a1, a2, a3⟩, ol, b1, b2, m, b3⟩ hi hei (by simp; exact ⟨hei, Ne.symm hle⟩) fun y h' tk hP ho st' hT hsz hk => ?_
    have hy : y = v := by rw [show vs[i]? = some v by simpa using hv] at hP; cases hP; rfl
    subst hy
    refine ⟨_, rfl, wpAny_letOwnedTupleGo_enum (s := { s with heap := h', toks := tk + 1 }) ho fun h₂ he₂ hs₂ => ?_⟩
    have hlt : e < s.heap.objs.size := Heap.lt_size he
    have hlt' : it < s.heap.objs.size := Heap.lt_size a1
    obtain ⟨⟨o', c1, c2, c3⟩, _⟩ := st'
    have c1' : h₂.get? it = some o' := (hs₂.2 it (Ne.symm hei)).trans c1
    have kb : KB [e, it] s.heap h₂ := by
      refine ⟨fun b o hb eb => ?_, fun b hb => ?_⟩
      · simp at hb
        exact (hs₂.2 b hb.1).trans (hk b o hb.1 hb.2 eb)
      · rcases List.mem_cons.mp hb with rfl | hb
        · exact ⟨_, he₂⟩
        · rw [List.mem_singleton.mp hb]; exact ⟨_, c1'⟩
    have ht₂ : h₂.get? s.heap.objs.size = some { cls := .type "tuple", data := .seq #[.int i tk, y] } := (hs₂.2 _ (Nat.ne_of_gt hlt)).trans hT
    refine hQ _ h₂ _ (.tup ht₂ rfl rfl (.cons (.int _ _) (.cons (rv.aside sh kb) .nil))) ⟨⟨_, by simpa using he₂⟩, ⟨o', c1', c2, c3⟩, ol, vs, m, ?_, b2, b3, b4.aside sh kb, b5⟩ kb
    exact kb.1 l ol (by simp; exact ⟨hle, hli⟩) b1
  done := fun S s Q E st hh' hni hQ => by
    have hlen : (enumL ds).length = ds.length := by unfold enumL; simp
    rw [hlen] at st
    obtain ⟨⟨old, he⟩, ⟨o, a1, a2, a3⟩, ol, vs, m, b1, b2, b3, b4, b5⟩ := st
    have hT : s.TypeIs (.ref e) "enumerate" := ⟨_, he, rfl⟩
    unfold pyNext
    refine wpAny_bind (wpAny_attempt (wpAny_callSpecial?_slot (name := Str.ofString "__next__") hT F.slot_enumerate_next
      (wpAny_call_entry F.slot_enumerate_next hT F.entry_enumerate_next ?_ (F.args_enumerate_next_1 _))))
    show wpAny _ _ (field (.ref e) 2 >>= _) _ _ _
    refine wpAny_bind (wpAny_field he rfl (x := .ref it) rfl ?_)
    refine wpAny_bind (tuple_nextOf_end (A := A.in1) hh' (fun v q => hni v q it (.tail _ (.head _))) ⟨o, a1, a2, a3⟩ ⟨ol, b1, b2, m, b3⟩ (by have := b4.length; simp at this; simp [this]) fun h' x kb hx' => ?_)
    obtain ⟨ox, ho, hc⟩ := hx'
    refine wpAny_bind (wpAny_isInstance (T := "StopIteration") (b := true) ⟨ox, ho, hc⟩ isSubtype_stop ?_)
    refine wpAny_pure (hQ h' s.toks ⟨fun b o hb eb => kb.1 b o (fun q => hb (.tail _ q)) eb, fun b hb => ?_⟩)
    rcases List.mem_cons.mp hb with rfl | hb
    · exact ⟨_, kb.1 _ _ (by simpa using hei) he⟩
    · exact kb.2 b hb
  self := fun i S s Q E st hQ => by
    obtain ⟨⟨old, he⟩, _⟩ := st
    exact wpAny_pyIter_enum he hQ
theorem itK_enumL {e it l : Addr} (hh : A.handled = none) (hei : e ≠ it) (hle : l ≠ e) (hli : l ≠ it) (ds : List D) : ItK G A (.Tuple es n p) e [e, it] (EnumSt "list" "list_iterator" e it l ds) (enumL ds) where
  shape := enum_shape (by decide)
  ext := fun i S h S' h' st x => ⟨let ⟨old, he⟩ := st.1; ⟨old, x.exact he (.inr (.inr ⟨_, rfl⟩)) (.fields rfl)⟩, SeqSt.ext (.inl rfl) i S h S' h' st.2 x⟩
  item := fun i S s d Q E E' hd st hQ => by
    obtain ⟨x, hx, rfl⟩ := enumL_get hd
    have sh := enum_shape (by decide) i S s.heap st
    obtain ⟨⟨old, he⟩, ⟨o, a1, a2, a3⟩, ol, vs, m, b1, b2, b3, b4, b5⟩ := st
    obtain ⟨v, hv, rv⟩ := b4.get hx
    have hi : i < vs.size := by
      have := (List.getElem?_eq_some_iff.mp hv).1
      simpa using this
    refine wpAny_pyNext_enum_itemD (Draws.list (A := A.in1) hh it l hli vs) he ⟨⟨o, a1, a2, a3⟩, ol, b1, b2, m, b3⟩ hi hei (by simp; exact ⟨hei, Ne.symm hle⟩) fun y h' tk hP ho st' hT hsz hk => ?_
    have hy : y = v := by rw [show vs[i]? = some v by simpa using hv] at hP; cases hP; rfl
    subst hy
    refine ⟨_, rfl, wpAny_letOwnedTupleGo_enum (s := { s with heap := h', toks := tk + 1 }) ho fun h₂ he₂ hs₂ => ?_⟩
    have hlt : e < s.heap.objs.size := Heap.lt_size he
    have hlt' : it < s.heap.objs.size := Heap.lt_size a1
    obtain ⟨⟨o', c1, c2, c3⟩, _⟩ := st'
    have c1' : h₂.get? it = some o' := (hs₂.2 it (Ne.symm hei)).trans c1
    have kb : KB [e, it] s.heap h₂ := by
      refine ⟨fun b o hb eb => ?_, fun b hb => ?_⟩
      · simp at hb
        exact (hs₂.2 b hb.1).trans (hk b o hb.1 hb.2 eb)
      · rcases List.mem_cons.mp hb with rfl | hb
        · exact ⟨_, he₂⟩
        · rw [List.mem_singleton.mp hb]; exact ⟨_, c1'⟩
    have ht₂ : h₂.get? s.heap.objs.size = some { cls := .type "tuple", data := .seq #[.int i tk, y] } := (hs₂.2 _ (Nat.ne_of_gt hlt)).trans hT
    refine hQ _ h₂ _ (.tup ht₂ rfl rfl (.cons (.int _ _) (.cons (rv.aside sh kb) .nil))) ⟨⟨_, by simpa using he₂⟩, ⟨o', c1', c2, c3⟩, ol, vs, m, ?_, b2, b3, b4.aside sh kb, b5⟩ kb
    exact kb.1 l ol (by simp; exact ⟨hle, hli⟩) b1
  done := fun S s Q E st hh' hni hQ => by
    have hlen : (enumL ds).length = ds.length := by unfold enumL; simp
    rw [hlen] at st
    obtain ⟨⟨old, he⟩, ⟨o, a1, a2, a3⟩, ol, vs, m, b1, b2, b3, b4, b5⟩ := st
    have hT : s.TypeIs (.ref e) "enumerate" := ⟨_, he, rfl⟩
    unfold pyNext
    refine wpAny_bind (wpAny_attempt (wpAny_callSpecial?_slot (name := Str.ofString "__next__") hT F.slot_enumerate_next
      (wpAny_call_entry F.slot_enumerate_next hT F.entry_enumerate_next ?_ (F.args_enumerate_next_1 _))))
    show wpAny _ _ (field (.ref e) 2 >>= _) _ _ _
    refine wpAny_bind (wpAny_field he rfl (x := .ref it) rfl ?_)
    refine wpAny_bind (list_nextOf_end (A := A.in1) hh' (fun v q => hni v q it (.tail _ (.head _))) ⟨o, a1, a2, a3⟩ ⟨ol, b1, b2, m, b3⟩ (by have := b4.length; simp at this; simp [this]) fun h' x kb hx' => ?_)
    obtain ⟨ox, ho, hc⟩ := hx'
    refine wpAny_bind (wpAny_isInstance (T := "StopIteration") (b := true) ⟨ox, ho, hc⟩ isSubtype_stop ?_)
    refine wpAny_pure (hQ h' s.toks ⟨fun b o hb eb => kb.1 b o (fun q => hb (.tail _ q)) eb, fun b hb => ?_⟩)
    rcases List.mem_cons.mp hb with rfl | hb
    · exact ⟨_, kb.1 _ _ (by simpa using hei) he⟩
    · exact kb.2 b hb
  self := fun i S s Q E st hQ => by
    obtain ⟨⟨old, he⟩, _⟩ := st
    exact wpAny_pyIter_enum he hQ
end
noncomputable def eEnum (f : AEnv → Res T) : AEnv → Res (List D) := fun ρ => (f ρ).bind fun t ρ₁ => match t.val with
  | .list ds => .ok (enumL ds) ρ₁
  | .tup ds => .ok (enumL ds) ρ₁
  | _ => .stuck
theorem simI_enum {G : Gd} {k : Nat} {sc : Scope} {es : List Expr} {n : Nat} {tp p pos : Pos} {e : Expr} {f : AEnv → Res T} (hq : G.quiet = true) (hn : Sim G k sc (.Name "enumerate" p) (eConst (.glob (.type "enumerate")))) (h : Sim G k sc e f) (hu : unstarred e = true) :
    SimI G k sc (.Tuple es n tp) (.Call (.Name "enumerate" p) [e] [] pos) (eEnum f) := by
  intro cx ok ρ S s r Q E out
  show wpAny G.M cx.A (do callWith pos (← eval (.Name "enumerate" p) cx.env) [] (backTo pos (starEach [e] cx.env)) []) _ E s
  refine wpAny_bind (hn cx ok ρ S s r _ _ ?_)
  intro v h₀ t₀ S₀ r₀ j₀ x₀ v₀
  have hv : v = .type "enumerate" := by cases j₀; rfl
  subst hv
  refine callWith_plain (fun a q => by cases q) (star_plain [e] (by simp [hu])) (evalArgs_any (by simp [hu]) ?_)
  rw [spliced_items hu]
  refine wpAny_bind ((h cx ok ρ S₀ { s with heap := h₀, toks := t₀ } r₀).shared _ _ ?_)
  unfold eEnum at out
  cases hf : f ρ with
  | stuck => rw [hf] at out; exact out.elim
  | exc C ρ₁ => rw [hf] at out; intro e h₁ t₁ S₁ r₁ f₁ x₁; exact out e h₁ t₁ S₁ r₁ (f₁.back x₀) (x₀.trans x₁)
  | ok t ρ₁ =>
    rw [hf] at out
    simp only [Res.bind] at out ⊢
    intro v h₁ t₁ S₁ r₁ j₁ x₁ v₁
    refine wpAny_bind (wpAny_pure (wpAny_bind (wpAny_holding (wpAny_pure (wpAny_pure ?_)))))
    have xx := x₀.trans x₁
    have nw : ∀ b ∈ [h₁.objs.size + 1, h₁.objs.size], s.heap.get? b = none := fun b hb => by
      refine xx.none (Heap.get?_none_of_le ?_)
      rcases List.mem_cons.mp hb with rfl | hb
      · exact Nat.le_succ _
      · rw [List.mem_singleton.mp hb]; exact Nat.le_refl _
    have ne : h₁.objs.size + 1 ≠ h₁.objs.size := Nat.succ_ne_self _
    split at out
    · rename_i ds e
      rw [e] at j₁
      cases j₁ with
      | list hs e1 e2 e3 q =>
        rename_i a o vs m
        have ha := Heap.lt_size e1
        refine call_enumerate_list (s := { s with heap := h₁, toks := t₁ }) ⟨o, e1, e2.1, m, e3⟩ fun h₂ he hit hz hk => ?_
        obtain ⟨r₂, x₂, v₂⟩ := r₁.keepsE hk
        refine wpAny_pyIter_enum he ?_
        exact out _ [h₁.objs.size + 1, h₁.objs.size] _ S₁ h₂ t₁ r₂ (itK_enumL (ok.hd hq) ne (Nat.ne_of_lt (Nat.lt_succ_of_lt ha)) (Nat.ne_of_lt ha) ds) ⟨⟨_, he⟩, hit, o, vs, m, hk _ _ e1, e2.1, e3, q.ext x₂, fun _ => hs⟩ nw (xx.trans x₂) (((v₀ rfl).trans (v₁ rfl)).trans v₂)
    · rename_i ds e
      rw [e] at j₁
      cases j₁ with
      | tup e1 e2 e3 q =>
        rename_i a o vs m
        have ha := Heap.lt_size e1
        refine call_enumerate_tuple (s := { s with heap := h₁, toks := t₁ }) ⟨o, e1, e2, m, e3⟩ fun h₂ he hit hk => ?_
        obtain ⟨r₂, x₂, v₂⟩ := r₁.keepsE hk
        refine wpAny_pyIter_enum he ?_
        exact out _ [h₁.objs.size + 1, h₁.objs.size] _ S₁ h₂ t₁ r₂ (itK_enumT (ok.hd hq) ne (Nat.ne_of_lt (Nat.lt_succ_of_lt ha)) (Nat.ne_of_lt ha) ds) ⟨⟨_, he⟩, hit, o, vs, m, hk _ _ e1, e2, e3, q.ext x₂, fun q => absurd q (by decide)⟩ nw (xx.trans x₂) (((v₀ rfl).trans (v₁ rfl)).trans v₂)
    · exact out.elim
end Mine
end

section
set_option Elab.async false
set_option maxRecDepth 100000
namespace Mine
open PySem PyProof.Rows
noncomputable def hideH (h : Heap) (X : List Addr) : Heap := { h with objs := h.objs.mapIdx fun i o => if i ∈ X then { o with data := .freed } else o }
theorem hideH_get (h : Heap) (X : List Addr) (a : Addr) : (hideH h X).get? a = if a ∈ X then none else h.get? a := by
  unfold hideH Heap.get?
  simp only [Array.getElem?_mapIdx]
  cases h.objs[a]? with
  | none => simp
  | some o =>
    by_cases hx : a ∈ X
    · simp [hx]
    · simp [hx]
theorem hideH_some {h : Heap} {X : List Addr} {a : Addr} {o : Obj} (e : (hideH h X).get? a = some o) : a ∉ X ∧ h.get? a = some o := by
  rw [hideH_get] at e
  split at e
  · cases e
  · exact ⟨by assumption, e⟩
structure After (X : List Addr) (S : Addr → Prop) (h : Heap) (S' : Addr → Prop) (h' : Heap) : Prop where
  keep : ∀ b o, b ∉ X → h.get? b = some o → ∃ sl, h'.get? b = some { o with slots := sl } ∧ (NotDict o → sl = o.slots)
  dom : ∀ b ∈ X, ∃ o, h'.get? b = some o
  shape : ∀ b ∈ X, ∃ o, h.get? b = some o ∧ Iterish o
  sub : ∀ b, S b → S' b
  new : ∀ b, S' b → S b ∨ b ∈ X ∨ h.get? b = none
  sdom : SDom S' h'
section
variable {X : List Addr} {S S' S'' : Addr → Prop} {h h' h'' : Heap}
theorem After.exact (k : After X S h S' h') {b : Addr} {o : Obj} (e : h.get? b = some o) (hi : ¬ Iterish o) (hn : NotDict o) : h'.get? b = some o := by
  have hb : b ∉ X := fun m => by obtain ⟨o', e', q⟩ := k.shape b m; rw [e] at e'; cases e'; exact hi q
  obtain ⟨sl, e', q⟩ := k.keep b o hb e
  rw [q hn] at e'; exact e'
theorem After.domAll (k : After X S h S' h') {b : Addr} {o : Obj} (e : h.get? b = some o) : ∃ o', h'.get? b = some o' := by
  by_cases hb : b ∈ X
  · exact k.dom b hb
  · obtain ⟨sl, e', _⟩ := k.keep b o hb e; exact ⟨_, e'⟩
theorem notIterish_seq {o : Obj} {vs : Array Value} {n : Nat} (hd : o.data = .seq vs n) : ¬ Iterish o := fun ⟨_, _, _, _, _, _, q⟩ => by rw [hd] at q; cases q
theorem notIterish_cell {o : Obj} {v : Option Value} (hd : o.data = .cell v) : ¬ Iterish o := fun ⟨_, _, _, _, _, _, q⟩ => by rw [hd] at q; cases q
theorem notIterish_dict {o : Obj} {es : Array DictEntry} {n : Nat} (hd : o.data = .dict es n) : ¬ Iterish o := fun ⟨_, _, _, _, _, _, q⟩ => by rw [hd] at q; cases q
theorem After.carry (k : After X S h S' h') : Carry S h S' h' where
  tup := fun e hc hd => k.exact e (notIterish_seq hd) (.seq hd)
  list := fun hs e hc hd => ⟨k.sub _ hs, k.exact e (notIterish_seq hd) (.seq hd)⟩
  range := fun e => k.exact e (fun ⟨_, _, q1, _, _, q4, _⟩ => by cases q1; exact q4 rfl) (.fields rfl)
  exc := fun e hc hn hd r => .exc (k.exact e (fun ⟨_, _, q1, _⟩ => by rw [hc] at q1; cases q1) (.fields hd)) hc hn hd r
  dom := fun a o e' => k.domAll e'
  obj := fun s1 s2 e n => ⟨k.sub _ s1, k.sub _ s2, k.exact e (fun ⟨_, _, q1, _⟩ => by cases q1) (fun es m q => by cases q), by
    obtain ⟨o, es, ep, ho, hd, r⟩ := n
    have hb : _ ∉ X := fun q => by obtain ⟨o', e', q⟩ := k.shape _ q; rw [ho] at e'; cases e'; exact notIterish_dict hd q
    obtain ⟨sl, e', _⟩ := k.keep _ o hb ho
    exact ⟨_, es, ep, e', hd, r⟩⟩
theorem RV.after (k : After X S h S' h') {v : Value} {d : D} (q : RV S h v d) : RV S' h' v d := q.map k.carry
theorem After.ns (k : After X S h S' h') {a : Addr} {m : Str → Option Value} (n : h.Ns a m) : h'.Ns a m := by
  obtain ⟨o, es, ep, ho, hd, r⟩ := n
  have hb : a ∉ X := fun q => by obtain ⟨o', e', q⟩ := k.shape a q; rw [ho] at e'; cases e'; exact notIterish_dict hd q
  obtain ⟨sl, e', _⟩ := k.keep a o hb ho
  exact ⟨_, es, ep, e', hd, r⟩
theorem After.cell (k : After X S h S' h') {c : Addr} {v : Option Value} (n : h.IsCell c v) : h'.IsCell c v := by
  obtain ⟨o, ho, hd⟩ := n
  exact ⟨o, k.exact ho (notIterish_cell hd) (fun es n q => by rw [hd] at q; cases q), hd⟩
theorem After.ownV (k : After X S h S' h') {a : Addr} {d : D} (q : OwnV S h a d) : OwnV S' h' a d :=
  q.map k.carry fun o e hd => k.keep a o (fun m => by
    obtain ⟨o', e', q⟩ := k.shape a m
    rw [e] at e'; cases e'
    rcases hd with ⟨_, _, hd⟩ | ⟨_, _, hd⟩
    · exact notIterish_seq hd q
    · exact notIterish_dict hd q) e
theorem After.notS (k : After X S h S' h') {a : Addr} {o : Obj} (e : h.get? a = some o) (hi : ¬ Iterish o) (hs : ¬ S a) : ¬ S' a := fun q => by
  rcases k.new a q with q | q | q
  · exact hs q
  · obtain ⟨o', e', q⟩ := k.shape a q; rw [e] at e'; cases e'; exact hi q
  · rw [e] at q; cases q
end
section
variable {G : Gd} {cx : Cx} {sc : Scope} {ρ : AEnv} {X : List Addr} {S S' : Addr → Prop} {h h' : Heap}
theorem Rel.after (r : Rel G cx sc ρ S h) (k : After X S h S' h') (hb : G.B.StaysIn h') (new : ∀ b ∈ X, cx.h₀.get? b = none) : Rel G cx sc ρ S' h' ∧ VarSame cx.env h h' := by
  have same : VarSame cx.env h h' := fun y w q => by
    rcases q with ⟨a, m₁, b, c⟩ | ⟨a, c, b, d⟩
    · exact .inl ⟨a, m₁, k.ns b, c⟩
    · exact .inr ⟨a, c, b, k.cell d⟩
  have hf : ∀ y w, Var cx.env h' y w → Var cx.env h y w := fun y w q => by
    rcases q with ⟨a, m₁, b, c⟩ | ⟨a, c, b, d⟩
    · obtain ⟨m₀, n₀⟩ := r.ns
      exact .inl ⟨a, m₀, n₀, by rw [(k.ns n₀).agree b y]; exact c⟩
    · obtain ⟨w₀, n₀⟩ := r.cells y c b
      exact .inr ⟨a, c, b, by rw [IsCell.inj d (k.cell n₀)]; exact n₀⟩
  refine ⟨⟨hb, fun b o q => ?_, fun env he => ?_, let ⟨m, n⟩ := r.ns; ⟨m, k.ns n⟩, fun y c q => let ⟨w, n⟩ := r.cells y c q; ⟨w, k.cell n⟩, k.sdom, fun b q => ?_, ?_, fun y c e => ?_, fun y b hdy q => let ⟨o, eo⟩ := r.live y b hdy (hf y _ q); k.domAll eo, r.clean, fun v q => let ⟨C, e⟩ := r.hok v q; ⟨C, e.after k⟩, fun j y u hy hu => ?_, fun j l y z m m' d d' u hy hz hj hl a b => r.inj j l y z m m' d d' u hy hz hj hl (hf y _ a) (hf z _ b), r.dok.back hf⟩, same⟩
  · obtain ⟨sl, q₁, k₁⟩ := r.keep b o q
    obtain ⟨sl', q₂, k₂⟩ := k.keep b _ (fun m => by rw [new b m] at q; cases q) q₁
    exact ⟨sl', q₂, fun hn => (k₂ hn).trans (k₁ hn)⟩
  · obtain ⟨p, L, o, b, c, d, es, n, q⟩ := r.ff env he
    have hL : L ∉ X := fun m => by obtain ⟨o', e', q'⟩ := k.shape L m; rw [d] at e'; cases e'; exact notIterish_dict q q'
    obtain ⟨sl', q₂, k₂⟩ := k.keep L o hL d
    exact ⟨p, L, _, b, c, q₂, es, n, q⟩
  · rcases k.new b q with q | q | q
    · exact r.sok b q
    · exact .inr (new b q)
    · exact .inr (r.keep.none q)
  · obtain ⟨m, o, es, ep, e, hd, _⟩ := r.ns
    exact k.notS e (notIterish_dict hd) r.sloc
  · obtain ⟨w, o, e', hd⟩ := r.cells y c e
    exact k.notS e' (notIterish_cell hd) (r.scell y c e)
  · obtain ⟨w, hw', tw⟩ := r.vars j y u hy hu
    refine ⟨w, same y w hw', ?_⟩
    cases u with
    | sh d => exact RV.after k tw
    | ow m d =>
      obtain ⟨b, rfl, n1, ow, n2⟩ := tw
      obtain ⟨o, ho, hd⟩ := ow.live
      exact ⟨b, rfl, k.notS ho (hd.elim (fun ⟨_, _, hd⟩ => notIterish_seq hd) fun ⟨_, _, hd⟩ => notIterish_dict hd) n1, k.ownV ow, n2⟩
end
noncomputable def relabelS (csc sc : Scope) : Scope := { csc with names := csc.names.map fun (n, k) => if (k == .free && sc.kind == .function && sc.names.lookup n == some .cell) then (n, .cell) else (n, k) }
theorem relabel_eq {csc sc : Scope} {env : Env} (h : env.scope = sc) : relabel csc env = relabelS csc sc := by
  unfold relabel relabelS Env.kindOf
  rw [h]
noncomputable def nodupB : List Str → Bool
  | [] => true
  | x :: r => !r.contains x && nodupB r
theorem nodupB_ok : ∀ {l : List Str}, nodupB l = true → l.Nodup
  | [], _ => .nil
  | x :: r, h => by
    rw [nodupB, Bool.and_eq_true_iff] at h
    exact List.nodup_cons.mpr ⟨by simpa using h.1, nodupB_ok h.2⟩
noncomputable def compOk (sc csc : Scope) : Bool := csc.kind == .function && nodupB (csc.names.map (·.1)) && csc.names.all fun x => x.2 != .free || ((varNames sc).contains x.1 && (sc.names.lookup x.1 == some .cell || sc.names.lookup x.1 == some .free))
theorem lookup_mem {α : Type} : ∀ {l : List (Str × α)} {x : Str} {k : α}, (l.map (·.1)).Nodup → (x, k) ∈ l → l.lookup x = some k
  | (y, j) :: r, x, k, nd, h => by
    have nd' : y ∉ r.map (·.1) ∧ (r.map (·.1)).Nodup := by simpa using nd
    rw [List.lookup_cons]
    rcases List.mem_cons.mp h with e | hr
    · cases e; simp
    · have : (x == y) = false := by
        rw [beq_eq_false_iff_ne]
        rintro rfl
        exact nd'.1 (List.mem_map.mpr ⟨(x, k), hr, rfl⟩)
      rw [this]
      exact lookup_mem nd'.2 hr
theorem lookup_mapSnd {α : Type} (f : Str → α → α) (x : Str) : ∀ (l : List (Str × α)), (l.map fun p => (p.1, f p.1 p.2)).lookup x = (l.lookup x).map (f x)
  | [] => rfl
  | (n, k) :: r => by
    rw [List.map_cons, List.lookup_cons, List.lookup_cons]
    cases hx : x == n with
    | true => rw [beq_iff_eq.mp hx]; rfl
    | false => exact lookup_mapSnd f x r
theorem lookup_relabelS {csc sc : Scope} {x : Str} : (relabelS csc sc).names.lookup x = (csc.names.lookup x).map fun k => if (k == .free && sc.kind == .function && sc.names.lookup x == some .cell) then .cell else k := by
  have e : (relabelS csc sc).names = csc.names.map fun p => (p.1, (fun n k => if (k == NameKind.free && sc.kind == .function && sc.names.lookup n == some .cell) then NameKind.cell else k) p.1 p.2) := by
    unfold relabelS
    apply List.map_congr_left
    intro p _
    obtain ⟨n, k⟩ := p
    simp only
    split <;> rfl
  rw [e]
  exact lookup_mapSnd (fun n k => if (k == NameKind.free && sc.kind == .function && sc.names.lookup n == some .cell) then NameKind.cell else k) x csc.names
theorem varNames_nodup {sc : Scope} (h : (sc.names.map (·.1)).Nodup) : (varNames sc).Nodup := by
  unfold varNames
  exact h.sublist (List.Sublist.map _ List.filter_sublist)
theorem relabelS_fst (csc sc : Scope) : (relabelS csc sc).names.map (·.1) = csc.names.map (·.1) := by
  unfold relabelS
  simp only [List.map_map]
  apply List.map_congr_left
  intro x _
  simp only [Function.comp]
  split <;> rfl
noncomputable def closL (env : Env) : List (Str × NameKind) → List (Str × Addr) → List (Str × Addr)
  | [], acc => acc
  | (n, k) :: r, acc => if k == .free then (match env.cells.lookup n with | some c => closL env r ((n, c) :: acc) | none => closL env r acc) else closL env r acc
theorem closureFor_eq {csc : Scope} {env : Env} (h : ∀ x ∈ csc.names, x.2 = .free → ∃ c, env.cells.lookup x.1 = some c) : closureFor csc env = pure (closL env csc.names []) := by
  have key : ∀ (l : List (Str × NameKind)) (acc : List (Str × Addr)), (∀ x ∈ l, x.2 = .free → ∃ c, env.cells.lookup x.1 = some c) →
      (forIn l acc fun x r => match x with | (name, kind) => if kind == .free then (do let a ← cellOf env name; pure (ForInStep.yield ((name, a) :: r))) else pure (ForInStep.yield r) : Sem (List (Str × Addr))) = pure (closL env l acc) := by
    intro l
    induction l with
    | nil => intro acc _; rfl
    | cons x r ih =>
      intro acc hl
      obtain ⟨n, k⟩ := x
      rw [List.forIn_cons, closL]
      by_cases hk : k == .free
      · obtain ⟨c, hc⟩ := hl (n, k) (.head _) (beq_iff_eq.mp hk)
        simp only [hk, if_true]
        have : cellOf env n = pure c := by unfold cellOf; simp only at hc; rw [hc]
        rw [this]
        simp only [hc]
        rw [pure_bind, pure_bind]
        exact ih _ fun y hy => hl y (.tail _ hy)
      · simp only [hk, Bool.false_eq_true, if_false]
        rw [pure_bind]
        exact ih _ fun y hy => hl y (.tail _ hy)
  unfold closureFor
  have := key csc.names [] h
  simp only [bind_pure] 
  exact this
theorem closL_lookup {env : Env} : ∀ {l : List (Str × NameKind)} {acc : List (Str × Addr)} {x : Str} {c : Addr}, (closL env l acc).lookup x = some c → env.cells.lookup x = some c ∨ acc.lookup x = some c
  | [], _, _, _, h => .inr h
  | (n, k) :: r, acc, x, c, h => by
    rw [closL] at h
    split at h
    · split at h
      · rename_i c' hc
        rcases closL_lookup h with q | q
        · exact .inl q
        · rw [List.lookup_cons] at q
          cases hx : x == n with
          | true => rw [hx] at q; cases q; rw [beq_iff_eq.mp hx]; exact .inl hc
          | false => rw [hx] at q; exact .inr q
      · exact closL_lookup h
    · exact closL_lookup h
theorem closL_names {env : Env} : ∀ {l : List (Str × NameKind)} {acc : List (Str × Addr)} {x : Str} {c : Addr}, (closL env l acc).lookup x = some c → (x, .free) ∈ l ∨ ∃ c', acc.lookup x = some c'
  | [], _, _, _, h => .inr ⟨_, h⟩
  | (n, k) :: r, acc, x, c, h => by
    rw [closL] at h
    split at h
    · rename_i hk
      split at h
      · rcases closL_names h with q | ⟨c', q⟩
        · exact .inl (.tail _ q)
        · rw [List.lookup_cons] at q
          cases hx : x == n with
          | true => rw [beq_iff_eq.mp hx, ← beq_iff_eq.mp hk]; exact .inl (.head _)
          | false => rw [hx] at q; exact .inr ⟨_, q⟩
      · rcases closL_names h with q | q
        · exact .inl (.tail _ q)
        · exact .inr q
    · rcases closL_names h with q | q
      · exact .inl (.tail _ q)
      · exact .inr q
theorem closL_has {env : Env} {x : Str} {c : Addr} (hc : env.cells.lookup x = some c) : ∀ {l : List (Str × NameKind)} {acc : List (Str × Addr)}, ((x, .free) ∈ l ∨ acc.lookup x = some c) → (closL env l acc).lookup x = some c
  | [], _, h => h.elim (fun q => by cases q) id
  | (n, k) :: r, acc, h => by
    rw [closL]
    by_cases hx : x = n
    · subst hx
      split
      · rw [hc]
        exact closL_has hc (.inr (by simp))
      · rename_i hk
        refine closL_has hc ?_
        rcases h with h | h
        · rcases List.mem_cons.mp h with e | h
          · cases e; exact absurd rfl hk
          · exact .inl h
        · exact .inr h
    · have h' : (x, NameKind.free) ∈ r ∨ acc.lookup x = some c := h.imp (fun h => by
        rcases List.mem_cons.mp h with e | h
        · cases e; exact absurd rfl hx
        · exact h) id
      have hb : (x == n) = false := by simpa using hx
      split
      · split
        · exact closL_has hc (h'.imp id fun q => by rw [List.lookup_cons, hb]; exact q)
        · exact closL_has hc h'
      · exact closL_has hc h'
theorem cellsFrom_lookup : ∀ {l : List (Str × NameKind)} {n : Nat} {acc : List (Str × Addr)} {x : Str} {c : Addr}, (cellsFrom n l acc).lookup x = some c → (n ≤ c ∧ (x, .cell) ∈ l) ∨ acc.lookup x = some c
  | [], _, _, _, _, h => .inr h
  | (y, k) :: r, n, acc, x, c, h => by
    unfold cellsFrom at h
    split at h
    · rename_i hk
      rcases cellsFrom_lookup h with ⟨q, m⟩ | q
      · exact .inl ⟨Nat.le_of_succ_le q, .tail _ m⟩
      · rw [List.lookup_cons] at q
        cases hx : x == y with
        | true => rw [hx] at q; cases q; rw [beq_iff_eq.mp hx, ← beq_iff_eq.mp hk]; exact .inl ⟨Nat.le_refl _, .head _⟩
        | false => rw [hx] at q; exact .inr q
    · rcases cellsFrom_lookup h with ⟨q, m⟩ | q
      · exact .inl ⟨q, .tail _ m⟩
      · exact .inr q
theorem cellsFrom_acc : ∀ {l : List (Str × NameKind)} {n : Nat} {acc : List (Str × Addr)} {x : Str}, (∀ k, (x, k) ∈ l → k ≠ .cell) → (cellsFrom n l acc).lookup x = acc.lookup x
  | [], _, _, _, _ => rfl
  | (y, k) :: r, n, acc, x, h => by
    unfold cellsFrom
    split
    · rename_i hk
      rw [cellsFrom_acc fun k' m => h k' (.tail _ m), List.lookup_cons]
      have : (x == y) = false := by
        rw [beq_eq_false_iff_ne]
        rintro rfl
        exact h k (.head _) (beq_iff_eq.mp hk)
      rw [this]
    · exact cellsFrom_acc fun k' m => h k' (.tail _ m)
theorem newFunctionEnv_comp {M : Model} {A : Around} {E : Value → Shared → Prop} {s : Shared} {csc : Scope} {gl : Addr} {cl : List (Str × Addr)} {q : Str} {env : Env} {Q : Env → Shared → Prop}
    (h : Q { scope := csc, locals := s.heap.objs.size, globals := gl, cells := cellsFrom (s.heap.objs.size + 1) csc.names cl, qual := q, func := none, code := env.code, frame := env.frame, builtins := env.builtins } { s with heap := pushCells (s.heap.push { cls := .type "dict", data := .dict #[] }) csc.names }) :
    wpAny M A (newFunctionEnv csc gl cl [] q none .none (some env)) Q E s := by
  simp only [newFunctionEnv, Option.isSome_some, if_true]
  refine wpAny_bind (wpAny_alloc ?_)
  refine wpAny_bind (wpAny_layCells _ (fun name kind cells => by cases hkc : kind == NameKind.cell <;> simp [hkc]) _ _ _ _ ?_)
  rw [show ({ s with heap := s.heap.push { cls := .type "dict", data := .dict #[] } } : Shared).heap.objs.size = s.heap.objs.size + 1 from Heap.size_push ..]
  rw [List.forIn_nil]
  exact wpAny_bind (wpAny_pure (wpAny_pure h))
end Mine
end

section
set_option Elab.async false
set_option maxRecDepth 100000
namespace Mine
open PySem PyProof.Rows
noncomputable def T.weak : T → T
  | .sh d => .sh d
  | .ow _ d => .ow false d
noncomputable def capOne (sc csc : Scope) (ρ : AEnv) (x : Str) : Option (Option T) :=
  if csc.names.lookup x == some .free then (match (varNames sc).findIdx? (· == x) with
    | some i => (match ρ[i]? with | some (some t) => some (some t.weak) | _ => none)
    | none => none) else some none
noncomputable def capL (sc csc : Scope) (ρ : AEnv) : List Str → Option AEnv
  | [] => some []
  | x :: r => match capOne sc csc ρ x, capL sc csc ρ r with
    | some t, some ts => some (t :: ts)
    | _, _ => none
theorem capL_get {sc csc : Scope} {ρ : AEnv} : ∀ {l : List Str} {ρ₀ : AEnv}, capL sc csc ρ l = some ρ₀ → ∀ {j : Nat} {x : Str} {u : Option T}, l[j]? = some x → ρ₀[j]? = some u → capOne sc csc ρ x = some u
  | [], _, _, _, _, _, h, _ => by simp at h
  | y :: r, ρ₀, e, j, x, u, hx, hu => by
    rw [capL] at e
    split at e
    · rename_i t ts h1 h2
      cases e
      cases j with
      | zero => simp at hx hu; subst hx; subst hu; exact h1
      | succ j => exact capL_get h2 (by simpa using hx) (by simpa using hu)
    · cases e
theorem capL_has {sc csc : Scope} {ρ : AEnv} : ∀ {l : List Str} {ρ₀ : AEnv}, capL sc csc ρ l = some ρ₀ → ∀ {x : Str}, x ∈ l → ∃ u, capOne sc csc ρ x = some u
  | [], _, _, _, h => by cases h
  | y :: r, ρ₀, e, x, hx => by
    rw [capL] at e
    split at e
    · rename_i t ts h1 h2
      rcases List.mem_cons.mp hx with rfl | hx
      · exact ⟨_, h1⟩
      · exact capL_has h2 hx
    · cases e
theorem capOne_some {sc csc : Scope} {ρ : AEnv} {x : Str} {t : T} (h : capOne sc csc ρ x = some (some t)) : csc.names.lookup x = some .free ∧ ∃ (i : Nat) (t₀ : T), (varNames sc)[i]? = some x ∧ ρ[i]? = some (some t₀) ∧ t = t₀.weak := by
  unfold capOne at h
  split at h
  · rename_i hf
    refine ⟨beq_iff_eq.mp hf, ?_⟩
    split at h
    · rename_i i hi
      split at h
      · rename_i t₀ ht
        cases h
        obtain ⟨h1, h2, _⟩ := List.findIdx?_eq_some_iff_getElem.mp hi
        exact ⟨i, t₀, by rw [List.getElem?_eq_getElem h1]; exact congrArg some (beq_iff_eq.mp h2), ht, rfl⟩
      · cases h
    · cases h
  · cases h
theorem capOne_free {sc csc : Scope} {ρ : AEnv} {x : Str} {u : Option T} (h : capOne sc csc ρ x = some u) (hf : csc.names.lookup x = some .free) : ∃ t, u = some t := by
  unfold capOne at h
  rw [if_pos (by rw [hf]; rfl)] at h
  split at h
  · split at h
    · cases h; exact ⟨_, rfl⟩
    · cases h
  · cases h
noncomputable def compCells (csc : Scope) (env : Env) (C : Addr) : List (Str × Addr) := cellsFrom (C + 1) csc.names (closL env csc.names [])
noncomputable def compE (csc sc : Scope) (env : Env) (C : Addr) : Env := { scope := relabelS csc sc, locals := C, globals := env.globals, cells := compCells csc env C, qual := env.qual, func := none, code := env.code, frame := env.frame, builtins := env.builtins }
noncomputable def ownA (csc : Scope) (env : Env) (C : Addr) : List Addr := ((compCells csc env C).filter fun p => decide (C < p.2)).map (·.2)
noncomputable def cxAt (cx : Cx) (csc sc : Scope) (C : Addr) (wr : List Addr) (S : Addr → Prop) (h : Heap) : Cx := { A := cx.A, env := compE csc sc cx.env C, fs := cx.fs, h₀ := hideH h (wr ++ C :: ownA csc cx.env C), P := S }
structure CI (G : Gd) (cx : Cx) (sc csc : Scope) (S₁ : Addr → Prop) (h₁ : Heap) (wr : List Addr) (C : Addr) (S : Addr → Prop) (h : Heap) : Prop where
  aft : After wr S₁ h₁ S h
  base : G.B.StaysIn h
  ns : ∃ m, h.Ns C m
  cells : ∀ x c, (compCells csc cx.env C).lookup x = some c → ∃ v, h.IsCell c v
  sloc : ¬ S C
  scell : ∀ x c, (compCells csc cx.env C).lookup x = some c → ¬ S c
  live : ∀ x a, isDirty x = false → Var (compE csc sc cx.env C) h x (.ref a) → ∃ o, h.get? a = some o
theorem cellsFrom_inj {lo : Nat} {l : List (Str × NameKind)} : ∀ {n : Nat} {acc : List (Str × Addr)}, (∀ x c, acc.lookup x = some c → c < n) → (∀ x y c, lo ≤ c → acc.lookup x = some c → acc.lookup y = some c → x = y) → ∀ x y c, lo ≤ c → (cellsFrom n l acc).lookup x = some c → (cellsFrom n l acc).lookup y = some c → x = y := by
  induction l with
  | nil => intro n acc _ h; exact h
  | cons zk r ih =>
    intro n acc hb h
    obtain ⟨z, k⟩ := zk
    unfold cellsFrom
    split
    · refine ih (fun x c q => ?_) fun x y c hc qx qy => ?_
      · rw [List.lookup_cons] at q
        cases hx : x == z with
        | true => rw [hx] at q; cases q; exact Nat.lt_succ_self _
        | false => rw [hx] at q; exact Nat.lt_succ_of_lt (hb x c q)
      · rw [List.lookup_cons] at qx qy
        cases hx : x == z <;> cases hy : y == z <;> rw [hx] at qx <;> rw [hy] at qy
        · exact h x y c hc qx qy
        · cases qy; exact absurd (hb x _ qx) (Nat.lt_irrefl _)
        · cases qx; exact absurd (hb y _ qy) (Nat.lt_irrefl _)
        · rw [beq_iff_eq.mp hx, beq_iff_eq.mp hy]
    · exact ih hb h
section
variable {G : Gd} {cx : Cx} {sc csc : Scope} {ρ₁ ρ₀ : AEnv} {S₁ S S' : Addr → Prop} {h₁ h h' : Heap} {wr : List Addr} {C : Addr} {k : Nat}
structure CG (G : Gd) (cx : Cx) (sc csc : Scope) (ρ₁ : AEnv) (S₁ : Addr → Prop) (h₁ : Heap) (wr : List Addr) (C : Addr) (ρ₀ : AEnv) : Prop where
  hsc : cx.env.scope = sc
  r : Rel G cx sc ρ₁ S₁ h₁
  new : ∀ b ∈ wr, cx.h₀.get? b = none ∧ G.B.get? b = none
  hC : h₁.objs.size ≤ C
  ok : compOk sc csc = true
  cap : capL sc csc ρ₁ (varNames (relabelS csc sc)) = some ρ₀
theorem CG.nodup (g : CG G cx sc csc ρ₁ S₁ h₁ wr C ρ₀) : (csc.names.map (·.1)).Nodup := by
  have := g.ok
  unfold compOk at this
  simp only [Bool.and_eq_true] at this
  exact nodupB_ok this.1.2
theorem CG.kind (g : CG G cx sc csc ρ₁ S₁ h₁ wr C ρ₀) : csc.kind = .function := by
  have := g.ok
  unfold compOk at this
  simp only [Bool.and_eq_true, beq_iff_eq] at this
  exact this.1.1
theorem CG.free (g : CG G cx sc csc ρ₁ S₁ h₁ wr C ρ₀) {x : Str} (h : (x, .free) ∈ csc.names) : x ∈ varNames sc ∧ (sc.names.lookup x = some .cell ∨ sc.names.lookup x = some .free) := by
  have := g.ok
  unfold compOk at this
  simp only [Bool.and_eq_true] at this
  have := List.all_eq_true.mp this.2 _ h
  simpa using this
theorem mem_of_lookup' {α : Type} {l : List (Str × α)} {n : Str} {c : α} (h : l.lookup n = some c) : (n, c) ∈ l := mem_of_lookup h
theorem CG.taken (g : CG G cx sc csc ρ₁ S₁ h₁ wr C ρ₀) {x : Str} (hf : csc.names.lookup x = some .free) : ∃ (c : Addr) (v : Value) (i : Nat) (t : T), cx.env.cells.lookup x = some c ∧ (compCells csc cx.env C).lookup x = some c ∧ h₁.IsCell c (some v) ∧ (varNames sc)[i]? = some x ∧ ρ₁[i]? = some (some t) ∧ TVar cx.h₀ S₁ h₁ v t ∧ (cx.env.kindOf x = some .cell ∨ cx.env.kindOf x = some .free) := by
  have hm := mem_of_lookup' hf
  obtain ⟨hv, hk⟩ := g.free hm
  have hx' : x ∈ varNames (relabelS csc sc) := by
    have : (x, if (NameKind.free == .free && sc.kind == .function && sc.names.lookup x == some .cell) then NameKind.cell else .free) ∈ (relabelS csc sc).names := by
      unfold relabelS
      refine List.mem_map.mpr ⟨(x, .free), hm, ?_⟩
      simp only
      split <;> rfl
    unfold varNames
    refine List.mem_map.mpr ⟨_, List.mem_filter.mpr ⟨this, ?_⟩, rfl⟩
    simp only
    split <;> rfl
  obtain ⟨u, hu⟩ := capL_has g.cap hx'
  obtain ⟨t, rfl⟩ := capOne_free hu hf
  obtain ⟨_, i, t₀, hi, ht, rfl⟩ := capOne_some hu
  obtain ⟨v, hvar, tv⟩ := g.r.vars i x t₀ hi ht
  have hkk : cx.env.kindOf x = sc.names.lookup x := by unfold Env.kindOf; rw [g.hsc]
  rcases hvar with ⟨a, _⟩ | ⟨a, c, b, d⟩
  · rw [hkk] at a
    rcases hk with q | q <;> (rw [q] at a; cases a)
  · refine ⟨c, v, i, t₀, b, ?_, d, hi, ht, tv, a⟩
    unfold compCells
    rw [cellsFrom_acc (fun kk m q => by
      subst q
      have := lookup_mem g.nodup m
      rw [hf] at this; cases this)]
    exact closL_has b (.inl hm)
theorem CG.cellOf (g : CG G cx sc csc ρ₁ S₁ h₁ wr C ρ₀) {x : Str} {c : Addr} (hc : (compCells csc cx.env C).lookup x = some c) : (C < c ∧ (x, .cell) ∈ csc.names) ∨ (csc.names.lookup x = some .free ∧ cx.env.cells.lookup x = some c ∧ c < h₁.objs.size) := by
  unfold compCells at hc
  rcases cellsFrom_lookup hc with ⟨q, m⟩ | q
  · exact .inl ⟨q, m⟩
  · right
    have hl : cx.env.cells.lookup x = some c := by
      rcases closL_lookup q with q | q
      · exact q
      · cases q
    have hm : (x, .free) ∈ csc.names := by
      rcases closL_names q with q | ⟨_, q⟩
      · exact q
      · cases q
    refine ⟨lookup_mem g.nodup hm, hl, ?_⟩
    obtain ⟨v, o, e, _⟩ := g.r.cells x c hl
    exact Heap.lt_size e
theorem CG.notX (g : CG G cx sc csc ρ₁ S₁ h₁ wr C ρ₀) {b : Addr} {o : Obj} (e : h₁.get? b = some o) (hb : b ∉ wr) : b ∉ wr ++ C :: ownA csc cx.env C := by
  have hlt := Heap.lt_size e
  have hC := g.hC
  intro m
  rcases List.mem_append.mp m with m | m
  · exact hb m
  · rcases List.mem_cons.mp m with rfl | m
    · exact absurd hlt (Nat.not_lt.mpr hC)
    · unfold ownA at m
      obtain ⟨p, hp, rfl⟩ := List.mem_map.mp m
      have := (List.mem_filter.mp hp).2
      simp only [decide_eq_true_eq] at this
      exact absurd (Nat.lt_of_lt_of_le hlt hC) (Nat.not_lt.mpr (Nat.le_of_lt this))
theorem CG.xNew (g : CG G cx sc csc ρ₁ S₁ h₁ wr C ρ₀) {b : Addr} (hb : b ∈ C :: ownA csc cx.env C) : h₁.get? b = none := by
  have hC := g.hC
  refine Heap.get?_none_of_le ?_
  rcases List.mem_cons.mp hb with rfl | m
  · exact hC
  · unfold ownA at m
    obtain ⟨p, hp, rfl⟩ := List.mem_map.mp m
    have := (List.mem_filter.mp hp).2
    simp only [decide_eq_true_eq] at this
    exact Nat.le_trans hC (Nat.le_of_lt this)
theorem CI.rel (g : CG G cx sc csc ρ₁ S₁ h₁ wr C ρ₀) (ci : CI G cx sc csc S₁ h₁ wr C S h) : Rel G (cxAt cx csc sc C wr S h) (relabelS csc sc) ρ₀ S h := by
  obtain ⟨ro, same⟩ := g.r.after ci.aft ci.base fun b hb => (g.new b hb).1
  have nd' : (varNames (relabelS csc sc)).Nodup := varNames_nodup (by rw [relabelS_fst]; exact g.nodup)
  have kd : ∀ x, csc.names.lookup x = some .free → (compE csc sc cx.env C).kindOf x = some .cell ∨ (compE csc sc cx.env C).kindOf x = some .free := fun x hf => by
    show (relabelS csc sc).names.lookup x = _ ∨ (relabelS csc sc).names.lookup x = _
    rw [lookup_relabelS, hf, Option.map_some]
    split
    · exact .inl rfl
    · exact .inr rfl
  have got : ∀ (j : Nat) (x : Str) (t : T), (varNames (relabelS csc sc))[j]? = some x → ρ₀[j]? = some (some t) → csc.names.lookup x = some .free ∧ ∃ (i : Nat) (t₀ : T) (v : Value), (varNames sc)[i]? = some x ∧ ρ₁[i]? = some (some t₀) ∧ t = t₀.weak ∧ Var cx.env h x v ∧ Var (compE csc sc cx.env C) h x v ∧ TVar cx.h₀ S h v t₀ := fun j x t hx ht => by
    have hu := capL_get g.cap hx ht
    obtain ⟨hf, i, t₀, hi, ht₀, rfl⟩ := capOne_some hu
    obtain ⟨c, v', i', t', hc, hcc, hcell, hi', ht', tv', hkk⟩ := g.taken hf
    obtain ⟨v, hv, tv⟩ := ro.vars i x t₀ hi ht₀
    have : Var cx.env h x v' := .inr ⟨hkk, c, hc, ci.aft.cell hcell⟩
    cases Var.inj hv this
    exact ⟨hf, i, t₀, _, hi, ht₀, rfl, hv, .inr ⟨kd x hf, c, hcc, ci.aft.cell hcell⟩, tv⟩
  refine { base := ci.base, keep := fun b o e => ⟨o.slots, (hideH_some e).2, fun _ => rfl⟩, ff := ro.ff, ns := ci.ns, cells := ci.cells, sdom := ci.aft.sdom, sok := fun b q => .inl q, sloc := ci.sloc, scell := ci.scell, live := ci.live, clean := fun j x m d hx hj => ?_, hok := ro.hok, vars := fun j x t hx ht => ?_, inj := fun j l x y m m' d d' v hx hy hj hl a b => ?_, dok := fun j x m ks ds hx hj hvx => ?_ }
  rotate_right
  · obtain ⟨hf, _⟩ := got j x _ hx hj
    obtain ⟨c, v', i', t', hc, hcc, hcell, hi', ht', tv', hkk⟩ := g.taken hf
    cases Var.inj hvx (.inr ⟨kd x hf, c, hcc, ci.aft.cell hcell⟩)
    have : ∃ o, h₁.get? C = some o := by
      cases t' with
      | sh d => exact RV.live tv' _ rfl
      | ow m d => obtain ⟨a, e, _, ow, _⟩ := tv'; cases e; obtain ⟨o, ho, _⟩ := ow.live; exact ⟨o, ho⟩
    obtain ⟨o, ho⟩ := this
    exact absurd (Heap.lt_size ho) (Nat.not_lt.mpr g.hC)
  · obtain ⟨_, i, t₀, v, hi, ht₀, e, _⟩ := got j x _ hx hj
    cases t₀ with
    | sh d => cases e
    | ow m₀ d₀ => exact g.r.clean i x m₀ d₀ hi ht₀
  · obtain ⟨_, i, t₀, v, hi, ht₀, rfl, _, hv, tv⟩ := got j x t hx ht
    refine ⟨v, hv, ?_⟩
    cases t₀ with
    | sh d => exact tv
    | ow m d => obtain ⟨a, rfl, n1, ow, _⟩ := tv; exact ⟨a, rfl, n1, ow, fun q => by cases q⟩
  · obtain ⟨_, i, t₀, v₁, hi, ht₀, e₁, hv₁, hw₁, _⟩ := got j x _ hx hj
    obtain ⟨_, i', t₀', v₂, hi', ht₀', e₂, hv₂, hw₂, _⟩ := got l y _ hy hl
    cases Var.inj a hw₁
    cases Var.inj b hw₂
    have : i = i' := by
      cases t₀ with
      | sh d => cases e₁
      | ow m₀ d₀ =>
        cases t₀' with
        | sh d => cases e₂
        | ow m₁ d₁ => exact ro.inj i i' x y m₀ m₁ d₀ d₁ _ hi hi' ht₀ ht₀' hv₁ hv₂
    subst this
    rw [hi] at hi'
    cases hi'
    obtain ⟨p1, e1⟩ := List.getElem?_eq_some_iff.mp hx
    obtain ⟨p2, e2⟩ := List.getElem?_eq_some_iff.mp hy
    exact (List.getElem_inj nd').mp (e1.trans e2.symm)
theorem CI.ok (g : CG G cx sc csc ρ₁ S₁ h₁ wr C ρ₀) (ok : CxOk G cx sc k) : CxOk G (cxAt cx csc sc C wr S h) (relabelS csc sc) k := by
  obtain ⟨env, outer, e1, e2⟩ := ok.top
  exact { hsc := rfl, hk := g.kind, hg := ok.hg, hb := ok.hb, fr := ok.fr, top := ⟨env, outer, e1, e2⟩, hd := ok.hd, room := ok.room, nodup := varNames_nodup (by rw [relabelS_fst]; exact g.nodup) }
theorem CI.fn (g : CG G cx sc csc ρ₁ S₁ h₁ wr C ρ₀) (ci : CI G cx sc csc S₁ h₁ wr C S h) : FnCx G (cxAt cx csc sc C wr S h) where
  bh := fun b o e => by
    show (hideH h _).get? b = some o
    rw [hideH_get, if_neg (g.notX (g.r.base b o e) fun m => by rw [(g.new b m).2] at e; cases e)]
    exact ci.base b o e
  lnew := by
    show (hideH h _).get? C = none
    rw [hideH_get, if_pos (List.mem_append.mpr (.inr (.head _)))]
  cap := fun x y c hx hy hn => by
    have own : C < c := by
      rcases g.cellOf hx with ⟨q, _⟩ | ⟨hf, hl, hlt⟩
      · exact q
      · exfalso
        obtain ⟨v, hcell⟩ := g.r.cells x c hl
        have hcell0 := hcell
        obtain ⟨o, e, hd⟩ := hcell0
        have : (hideH h (wr ++ C :: ownA csc cx.env C)).get? c = none := hn
        rw [hideH_get, if_neg (g.notX e fun m => by obtain ⟨o', e', q⟩ := ci.aft.shape c m; rw [e] at e'; cases e'; exact notIterish_cell hd q)] at this
        obtain ⟨o', e', _⟩ := ci.aft.cell hcell
        rw [this] at e'; cases e'
    refine cellsFrom_inj (lo := C + 1) (fun z c' q => ?_) (fun z z' c' hc' q q' => ?_) x y c own hx hy
    · rcases closL_lookup q with q | q
      · obtain ⟨v, o, e, _⟩ := g.r.cells z c' q
        exact Nat.lt_succ_of_lt (Nat.lt_of_lt_of_le (Heap.lt_size e) g.hC)
      · cases q
    · exfalso
      rcases closL_lookup q with q | q
      · obtain ⟨v, o, e, _⟩ := g.r.cells z c' q
        exact absurd (Nat.lt_of_lt_of_le (Heap.lt_size e) g.hC) (Nat.not_lt.mpr (Nat.le_of_succ_le hc'))
      · cases q
  loc := fun x c q => by
    show c ≠ C
    rcases g.cellOf q with ⟨q, _⟩ | ⟨_, _, q⟩
    · exact Nat.ne_of_gt q
    · exact Nat.ne_of_lt (Nat.lt_of_lt_of_le q g.hC)
theorem CI.own (g : CG G cx sc csc ρ₁ S₁ h₁ wr C ρ₀) {x : Str} (hx : csc.names.lookup x = some .local ∨ csc.names.lookup x = some .cell) : OwnName (cxAt cx csc sc C wr S h) (relabelS csc sc) x := by
  unfold OwnName
  rw [lookup_relabelS]
  rcases hx with q | q
  · rw [q]; exact .inl rfl
  · rw [q]
    refine .inr ⟨rfl, ?_⟩
    obtain ⟨c, hc⟩ := Option.isSome_iff_exists.mp (cells_some csc.names (C + 1) (closL cx.env csc.names []) (.inl q))
    refine ⟨c, hc, ?_⟩
    show (hideH h _).get? c = none
    rw [hideH_get, if_pos]
    rcases g.cellOf (x := x) hc with ⟨hlt, _⟩ | ⟨hf, _⟩
    · refine List.mem_append.mpr (.inr (.tail _ ?_))
      unfold ownA
      exact List.mem_map.mpr ⟨(x, c), List.mem_filter.mpr ⟨mem_of_lookup' hc, by simpa using hlt⟩, rfl⟩
    · rw [q] at hf; cases hf
theorem CI.of_rel {ρ' : AEnv} (g : CG G cx sc csc ρ₁ S₁ h₁ wr C ρ₀) (ci : CI G cx sc csc S₁ h₁ wr C S h) (r : Rel G (cxAt cx csc sc C wr S h) (relabelS csc sc) ρ' S' h') (sub : ∀ b, S b → S' b) (dom : ∀ b ∈ wr, ∃ o, h'.get? b = some o) : CI G cx sc csc S₁ h₁ wr C S' h' where
  aft := {
    keep := fun b o hb e => by
      obtain ⟨sl, e₁, k₁⟩ := ci.aft.keep b o hb e
      have : (hideH h (wr ++ C :: ownA csc cx.env C)).get? b = some { o with slots := sl } := by rw [hideH_get, if_neg (g.notX e hb)]; exact e₁
      obtain ⟨sl', e₂, k₂⟩ := r.keep b _ this
      exact ⟨sl', e₂, fun hn => (k₂ hn).trans (k₁ hn)⟩
    dom := dom
    shape := ci.aft.shape
    sub := fun b q => sub b (ci.aft.sub b q)
    new := fun b q => by
      rcases r.sok b q with q | q
      · exact ci.aft.new b q
      · have q : (hideH h (wr ++ C :: ownA csc cx.env C)).get? b = none := q
        rw [hideH_get] at q
        split at q
        · rename_i m
          rcases List.mem_append.mp m with m | m
          · exact .inr (.inl m)
          · exact .inr (.inr (g.xNew m))
        · right; right
          cases q' : h₁.get? b with
          | none => rfl
          | some o => obtain ⟨o', e'⟩ := ci.aft.domAll q'; rw [q] at e'; cases e'
    sdom := r.sdom }
  base := r.base
  ns := r.ns
  cells := r.cells
  sloc := r.sloc
  scell := r.scell
  live := r.live
theorem CI.append {D : Addr} {oD oD' : Obj} {vs : Array Value} {n : Nat} (g : CG G cx sc csc ρ₁ S₁ h₁ wr C ρ₀) (ci : CI G cx sc csc S₁ h₁ wr C S h) (eD : h.get? D = some oD) (hd : oD.data = .seq vs n) (hD : h₁.get? D = none) (kk : Heap.SameBut D h h') (e' : h'.get? D = some oD') : CI G cx sc csc S₁ h₁ wr C S h' := by
  have dom : ∀ b o, h.get? b = some o → ∃ o', h'.get? b = some o' := fun b o e => by
    by_cases hb : b = D
    · subst hb; exact ⟨_, e'⟩
    · exact ⟨o, (kk.2 b hb).trans e⟩
  have hC : C ≠ D := by
    rintro rfl
    obtain ⟨m, o, es, ep, q, hd', _⟩ := ci.ns
    rw [eD] at q; cases q; rw [hd] at hd'; cases hd'
  have hcell : ∀ x c, (compCells csc cx.env C).lookup x = some c → c ≠ D := fun x c q => by
    rintro rfl
    obtain ⟨v, o, q, hd'⟩ := ci.cells x _ q
    rw [eD] at q; cases q; rw [hd] at hd'; cases hd'
  refine { aft := { ci.aft with keep := fun b o hb e => ?_, dom := fun b hb => ?_, sdom := fun b q => ?_ }, base := fun b o q => (kk.2 b ?_).trans (ci.base b o q), ns := ?_, cells := fun x c q => ?_, sloc := ci.sloc, scell := ci.scell, live := fun x a hdx q => ?_ }
  · obtain ⟨sl, q, k₁⟩ := ci.aft.keep b o hb e
    exact ⟨sl, (kk.2 b (by rintro rfl; rw [hD] at e; cases e)).trans q, k₁⟩
  · obtain ⟨o, q⟩ := ci.aft.dom b hb
    exact dom b o q
  · obtain ⟨o, q⟩ := ci.aft.sdom b q
    exact dom b o q
  · rintro rfl
    rw [g.r.base _ _ q] at hD; cases hD
  · obtain ⟨m, n⟩ := ci.ns
    exact ⟨m, n.sameBut kk hC⟩
  · obtain ⟨v, n⟩ := ci.cells x c q
    exact ⟨v, n.sameBut kk (hcell x c q)⟩
  · have : Var (compE csc sc cx.env C) h x (.ref a) := by
      rcases q with ⟨a1, m₁, b, c⟩ | ⟨a1, c, b, d⟩
      · obtain ⟨m₀, n₀⟩ := ci.ns
        exact .inl ⟨a1, m₀, n₀, by rw [(n₀.sameBut kk hC).agree b x]; exact c⟩
      · obtain ⟨w₀, n₀⟩ := ci.cells x c b
        exact .inr ⟨a1, c, b, by rw [IsCell.inj d (n₀.sameBut kk (hcell x c b))]; exact n₀⟩
    obtain ⟨o, e⟩ := ci.live x a hdx this
    exact dom a o e
end
end Mine
end

section
set_option Elab.async false
set_option maxRecDepth 100000
namespace Mine
open PySem PyProof.Rows
theorem compLoop_any {prog : Program} {w : World} {A : Around} {R : Result → Shared → Prop} {s : Shared} {elt target iter : Expr} {ifs : List Expr} {scope : Scope} {pos : Pos} {it acc : Value} {env : Env} (I : Nat → Shared → Prop)
    (turn : ∀ n s, I n s → wpAny (model prog w) A (pyNext it) (fun r s₁ => match r with
      | none => R (.ok .next) s₁
      | some v => wpAny (model prog w) A (letOwnedTupleGo target it v) (fun _ s₁' => wpAny (model prog w) A (assign target env v) (fun _ s₂ =>
          wpAny (model prog w) A (forIn ifs true fun c r => if r = true then do let ok ← isTrue c env (eval c env); pure (ForInStep.yield ok) else pure (ForInStep.yield r)) (fun ok s₃ =>
            if ok = true then wpAny (model prog w) A (eval elt env) (fun x s₄ =>
              wpAny (model prog w) A (call (.builtin "list.append") [acc, x]) (fun _ s₅ => ∃ m, m < n ∧ I m s₅) (notedBy (model prog w) A env fun e s' => R (.error e) s') s₄) (notedBy (model prog w) A env fun e s' => R (.error e) s') s₃
            else ∃ m, m < n ∧ I m s₃) (notedBy (model prog w) A env fun e s' => R (.error e) s') s₂) (notedBy (model prog w) A env fun e s' => R (.error e) s') s₁') (notedBy (model prog w) A env fun e s' => R (.error e) s') s₁) (notedBy (model prog w) A env fun e s' => R (.error e) s') s)
    (n : Nat) (h : I n s) : codeAny (model prog w) A (.compLoop (.ListComp elt [⟨target, iter, ifs, 0⟩] scope pos) 0 it acc env) R s := by
  refine codeAny_loop rfl I (fun n s hI => ?_) n h
  show wpAny _ A ((compTurn (.ListComp elt [⟨target, iter, ifs, 0⟩] scope pos) 0 it acc env).onRaise (fun x => do noteFrame x env; theTreesLotGoes x)) _ _ s
  refine wpAny_noted ?_
  rw [compTurn_list]
  refine wpAny_bind (wpAny_standAt (wpAny_bind (wpAny_mono (turn n s hI) (fun r s₁ h₁ => ?_) fun _ _ h' => h')))
  cases r with
  | none => exact wpAny_pure h₁
  | some v =>
    refine wpAny_bind (wpAny_mono h₁ (fun _ s₁' h₁' => ?_) fun _ _ h' => h')
    refine wpAny_bind (wpAny_mono h₁' (fun _ s₂ h₂ => wpAny_bind (wpAny_mono h₂ (fun ok s₃ h₃ => ?_) fun _ _ h' => h')) fun _ _ h' => h')
    cases ok with
    | false => exact wpAny_pure ⟨rfl, h₃⟩
    | true =>
      exact wpAny_bind (wpAny_bind (wpAny_mono h₃ (fun x s₄ h₄ => wpAny_bind (wpAny_mono h₄ (fun _ s₅ h₅ => wpAny_pure (wpAny_pure ⟨rfl, h₅⟩)) fun _ _ h' => h')) fun _ _ h' => h'))
noncomputable def SimTF (G : Gd) (k : Nat) (sc : Scope) (ifs : List Expr) (f : AEnv → Res Bool) : Prop :=
  ∀ cx, CxOk G cx sc k → ∀ ρ S s, Rel G cx sc ρ S s.heap → Does G cx sc true (forIn ifs true fun c r => if r = true then do let ok ← isTrue c cx.env (eval c cx.env); pure (ForInStep.yield ok) else pure (ForInStep.yield r)) S s (fun _ _ a b => a = b) (f ρ)
noncomputable def eAll : AEnv → Res Bool := fun ρ => .ok true ρ
theorem simTF_nil {G : Gd} {k : Nat} {sc : Scope} : SimTF G k sc [] eAll := fun _ _ _ _ _ r => Does.pure r rfl
theorem simTF_one {G : Gd} {k : Nat} {sc : Scope} {c : Expr} {f : AEnv → Res Bool} (h : SimT G k sc c f) : SimTF G k sc [c] f := fun cx ok ρ S s r Q E out => wpAny_tests_one (h cx ok ρ S s r Q E out)
noncomputable def compN (b : D → AEnv → Option AEnv) (t : AEnv → Res Bool) (f : AEnv → Res T) (ρ₀ : AEnv) : List D → List D → Option (List D)
  | [], acc => some acc
  | d :: ds, acc => match b d ρ₀ with
    | none => none
    | some ρ₁ => match t ρ₁ with
      | .ok true ρ₂ => (match f ρ₂ with
        | .ok v _ => if acc.length ≤ 1000000 then compN b t f ρ₀ ds (acc ++ [v.val]) else none
        | _ => none)
      | .ok false _ => compN b t f ρ₀ ds acc
      | _ => none
theorem After.ext {X : List Addr} {S₀ S S' : Addr → Prop} {h₀ h h' : Heap} (k : After X S h S' h') (x : Ext S₀ h₀ S h) (new : ∀ b ∈ X, h₀.get? b = none) : Ext S₀ h₀ S' h' :=
  ⟨fun b q => k.sub b (x.sub b q), fun b o e q => by
    obtain ⟨sl, e₁, k₁⟩ := x.keep b o e q
    obtain ⟨sl', e₂, k₂⟩ := k.keep b _ (fun m => by rw [new b m] at e; cases e) e₁
    exact ⟨sl', e₂, fun hn => (k₂ hn).trans (k₁ hn)⟩, fun b o e => by
    obtain ⟨o', e'⟩ := x.dom b o e
    exact k.domAll e'⟩
section
variable {G : Gd} {cx : Cx} {sc csc : Scope} {ρ₁ ρ₀ : AEnv} {S₁ S : Addr → Prop} {h₁ : Heap} {wr : List Addr} {C L : Addr} {k : Nat}
theorem comp_loop {tg iter elt : Expr} {ifs : List Expr} {pos : Pos} {I : Addr} {St : Nat → (Addr → Prop) → Heap → Prop} {ds out : List D} {xs : List Str} {b : D → AEnv → Option AEnv} {t : AEnv → Res Bool} {f : AEnv → Res T} {R : Result → Shared → Prop} {s : Shared} {n : Nat}
    (g : CG G cx sc csc ρ₁ S₁ h₁ wr C ρ₀) (ok : CxOk G cx sc k) (it : ItK G cx.A tg I wr St ds) (ha : SimA G (relabelS csc sc) tg xs b) (hxs : ∀ x ∈ xs, csc.names.lookup x = some .local ∨ csc.names.lookup x = some .cell)
    (ht : SimTF G k (relabelS csc sc) ifs t) (he : Sim G k (relabelS csc sc) elt f) (ci : CI G cx sc csc S₁ h₁ wr C S s.heap) (eD : s.heap.get? L = some { cls := .type "list", data := .seq #[] n }) (hD : h₁.get? L = none) (hLC : L < C) (hS : ¬ S L) (st : St 0 S s.heap)
    (hni : ∀ v, cx.A.handled = some v → ∀ b ∈ wr, v ≠ .ref b) (hc : compN b t f ρ₀ ds [] = some out)
    (fin : ∀ S' h' tk, CI G cx sc csc S₁ h₁ wr C S' h' → OwnAt S' h' L (.list out) → ¬ S' L → R (.ok .next) { s with heap := h', toks := tk }) :
    codeAny G.M cx.A (.compLoop (.ListComp elt [⟨tg, iter, ifs, 0⟩] csc pos) 0 (.ref I) (.ref L) (compE csc sc cx.env C)) R s := by
  have hLX : L ∉ wr ++ C :: ownA csc cx.env C := fun m => by
    rcases List.mem_append.mp m with m | m
    · obtain ⟨o, e, _⟩ := ci.aft.shape L m; rw [hD] at e; cases e
    · rcases List.mem_cons.mp m with rfl | m
      · exact absurd hLC (Nat.lt_irrefl _)
      · unfold ownA at m
        obtain ⟨p, hp, rfl⟩ := List.mem_map.mp m
        have := (List.mem_filter.mp hp).2
        simp only [decide_eq_true_eq] at this
        exact absurd hLC (Nat.not_lt.mpr (Nat.le_of_lt this))
  have hLw : L ∉ wr := fun m => hLX (List.mem_append.mpr (.inl m))
  obtain ⟨Inv, hI⟩ : ∃ Inv : Nat → Shared → Prop, ∀ m s', Inv m s' ↔ ∃ i S' h' tk acc vs n, m = ds.length + 1 - i ∧ i ≤ ds.length ∧ s' = { s with heap := h', toks := tk } ∧ CI G cx sc csc S₁ h₁ wr C S' h' ∧ St i S' h' ∧ h'.get? L = some { cls := .type "list", data := .seq vs n } ∧ RVs S' h' vs.toList acc ∧ ¬ S' L ∧ compN b t f ρ₀ (ds.drop i) acc = some out := ⟨_, fun _ _ => Iff.rfl⟩
  refine compLoop_any Inv ?_ (ds.length + 1) ((hI _ _).mpr ⟨0, S, s.heap, s.toks, [], #[], n, rfl, Nat.zero_le _, rfl, ci, st, eD, .nil, hS, by rw [List.drop_zero]; exact hc⟩)
  generalize (notedBy G.M cx.A (compE csc sc cx.env C) fun e s' => R (.error e) s') = EN
  intro m s' hinv
  obtain ⟨i, S', h', tk, acc, vs, n', rfl, hi, rfl, ci', st', eL, racc, hSL, hcn⟩ := (hI _ _).mp hinv
  have r' := ci'.rel g
  have new' : ∀ b ∈ wr, (cxAt cx csc sc C wr S' h').h₀.get? b = none ∧ G.B.get? b = none := fun b hb => ⟨by
    show (hideH h' _).get? b = none
    rw [hideH_get, if_pos (List.mem_append.mpr (.inl hb))], (g.new b hb).2⟩
  by_cases hlt : i < ds.length
  · have hd : ds[i]? = some ds[i] := List.getElem?_eq_getElem hlt
    rw [drop_cons_of hd, compN] at hcn
    split at hcn
    · cases hcn
    rename_i ρ₂ hb
    refine wpAny_mono (it.item i S' { s with heap := h', toks := tk } ds[i] (fun v s₂ => wpAny G.M cx.A (assign tg (compE csc sc cx.env C) v) (fun _ s₂ =>
          wpAny G.M cx.A (forIn ifs true fun c r => if r = true then do let ok ← isTrue c (compE csc sc cx.env C) (eval c (compE csc sc cx.env C)); pure (ForInStep.yield ok) else pure (ForInStep.yield r)) (fun ok s₃ =>
            if ok = true then wpAny G.M cx.A (eval elt (compE csc sc cx.env C)) (fun x s₄ =>
              wpAny G.M cx.A (call (.builtin "list.append") [.ref L, x]) (fun _ s₅ => ∃ m, m < ds.length + 1 - i ∧ Inv m s₅) EN s₄) EN s₃
            else ∃ m, m < ds.length + 1 - i ∧ Inv m s₃) EN s₂) EN s₂) _ EN hd st' fun v h₂ t₂ rv st₂ kb => ?_) (fun rr s₁ hh => by
      obtain ⟨v, rfl, hh⟩ := hh
      exact hh) fun _ _ e => e
    obtain ⟨r₂, v₂⟩ := r'.aside (it.shape i S' h' st') new' kb
    have ok' : CxOk G (cxAt cx csc sc C wr S' h') (relabelS csc sc) k := CI.ok g ok
    refine ha (cxAt cx csc sc C wr S' h') k ok' (CI.fn g ci') (fun x hx => CI.own g (hxs x hx)) ρ₀ S' { s with heap := h₂, toks := t₂ } v ds[i] ρ₂ r₂ rv hb _ _ ?_
    intro _ h₃ t₃ S₃ r₃ _ x₃ _
    have st₃ := it.ext _ _ _ _ _ st₂ x₃
    have racc₃ : RVs S₃ h₃ vs.toList acc := (racc.aside (it.shape i S' h' st') kb).ext x₃
    refine ht (cxAt cx csc sc C wr S' h') ok' ρ₂ S₃ { s with heap := h₃, toks := t₃ } r₃ _ _ ?_
    have done : ∀ {ρ' S'' h''}, Rel G (cxAt cx csc sc C wr S' h') (relabelS csc sc) ρ' S'' h'' → (∀ b, S' b → S'' b) → St (i + 1) S'' h'' → CI G cx sc csc S₁ h₁ wr C S'' h'' ∧ h''.get? L = some { cls := .type "list", data := .seq vs n' } ∧ ¬ S'' L := fun {ρ' S'' h''} r sub st => by
      refine ⟨CI.of_rel g ci' r sub fun b hb => let ⟨o, e, _⟩ := it.shape _ _ _ st b hb; ⟨o, e⟩, ?_, fun q => ?_⟩
      · have : (hideH h' (wr ++ C :: ownA csc cx.env C)).get? L = some { cls := .type "list", data := .seq vs n' } := by rw [hideH_get, if_neg hLX]; exact eL
        exact r.keep.exact this (.seq rfl)
      · rcases r.sok L q with q | q
        · exact hSL q
        · have q : (hideH h' (wr ++ C :: ownA csc cx.env C)).get? L = none := q
          rw [hideH_get, if_neg hLX, eL] at q; cases q
    split at hcn
    · rename_i ρ₃ htv
      rw [htv]
      intro a h₄ t₄ S₄ r₄ j₄ x₄ _
      subst j₄
      simp only [if_true]
      have st₄ := it.ext _ _ _ _ _ st₃ x₄
      split at hcn
      · rename_i v' ρ₄ hfv
        split at hcn
        · rename_i hlen
          refine (he (cxAt cx csc sc C wr S' h') ok' ρ₃ S₄ { s with heap := h₄, toks := t₄ } r₄).shared _ _ ?_
          rw [hfv]
          intro y h₅ t₅ S₅ r₅ j₅ x₅ _
          have st₅ := it.ext _ _ _ _ _ st₄ x₅
          have racc₅ : RVs S₅ h₅ vs.toList acc := (racc₃.ext x₄).ext x₅
          obtain ⟨ci₅, eL₅, hS₅⟩ := done r₅ (fun b q => x₅.sub b (x₄.sub b (x₃.sub b q))) st₅
          have hvl : vs.size = acc.length := by rw [← racc.length]; simp
          refine call_meets F.slot_list_append ⟨_, eL₅, rfl⟩ F.entry_list_append (F.args_list_append_2 _ _) (list_append L vs n' y (by rw [hvl, sizeLine_eq]; omega)) ⟨eL₅, ?_⟩
          obtain ⟨m', hm'⟩ := seq_update (fun xs => xs.push y) eL₅
          have sb : Heap.SameBut L h₅ (h₅.update L (Obj.mapSeq fun xs => xs.push y)) := Heap.SameBut.update ..
          have x₆ : Ext S₅ h₅ S₅ (h₅.update L (Obj.mapSeq fun xs => xs.push y)) := RV.but eL₅ notImm_list hS₅ (fun b o hb eb => (sb.2 b hb).trans eb) ⟨_, hm'⟩
          refine ⟨ds.length + 1 - (i + 1), by omega, (hI _ _).mpr ⟨i + 1, S₅, _, t₅, acc ++ [v'.val], vs.push y, m', rfl, hlt, rfl, CI.append g ci₅ eL₅ rfl hD sb hm', it.ext _ _ _ _ _ st₅ x₆, hm', ?_, hS₅, hcn⟩⟩
          rw [Array.toList_push]
          exact RVs.append (.cons (RV.ext x₆ j₅) .nil) (racc₅.ext x₆)
        · cases hcn
      · cases hcn
    · rename_i ρ₃ htv
      rw [htv]
      intro a h₄ t₄ S₄ r₄ j₄ x₄ _
      subst j₄
      simp only [Bool.false_eq_true, if_false]
      have st₄ := it.ext _ _ _ _ _ st₃ x₄
      obtain ⟨ci₄, eL₄, hS₄⟩ := done r₄ (fun b q => x₄.sub b (x₃.sub b q)) st₄
      exact ⟨ds.length + 1 - (i + 1), by omega, (hI _ _).mpr ⟨i + 1, S₄, h₄, t₄, acc, vs, n', rfl, hlt, rfl, ci₄, st₄, eL₄, racc₃.ext x₄, hS₄, hcn⟩⟩
    · cases hcn
  · have hie : i = ds.length := by omega
    subst hie
    rw [List.drop_length, compN] at hcn
    cases hcn
    refine it.done S' { s with heap := h', toks := tk } _ _ st' r'.hOk hni fun h₂ t₂ kb => ?_
    have sh := it.shape _ S' h' st'
    obtain ⟨r₂, v₂⟩ := r'.aside sh new' kb
    refine fin S' h₂ t₂ (CI.of_rel g ci' r₂ (fun _ q => q) kb.2) ⟨vs, n', kb.1 L _ hLw eL, racc.aside sh kb⟩ hSL
end
end Mine
end

section
set_option Elab.async false
set_option maxRecDepth 100000
namespace Mine
open PySem PyProof.Rows
theorem cellsFrom_cell : ∀ {l : List (Str × NameKind)} {h : Heap} {acc : List (Str × Addr)} {x : Str} {c : Addr}, (cellsFrom h.objs.size l acc).lookup x = some c → (∃ c', acc.lookup x = some c' ∧ c' = c) ∨ ((pushCells h l).IsCell c none ∧ h.objs.size ≤ c)
  | [], _, _, _, _, q => .inl ⟨_, q, rfl⟩
  | (y, k) :: r, h, acc, x, c, q => by
    unfold cellsFrom at q
    unfold pushCells
    split at q
    · rename_i hk
      rw [if_pos hk]
      rw [show h.objs.size + 1 = (h.push { cls := .type "cell", data := .cell none }).objs.size from (Heap.size_push ..).symm] at q
      rcases cellsFrom_cell q with ⟨c', q', rfl⟩ | ⟨q', hl⟩
      · rw [List.lookup_cons] at q'
        cases hx : x == y with
        | true =>
          rw [hx] at q'; cases q'
          exact .inr ⟨⟨_, pushCells_keeps _ _ _ _ (Heap.get?_push_size _ rfl), rfl⟩, Nat.le_refl _⟩
        | false => rw [hx] at q'; exact .inl ⟨_, q', rfl⟩
      · rw [Heap.size_push] at hl
        exact .inr ⟨q', Nat.le_of_succ_le hl⟩
    · rename_i hk
      rw [if_neg hk]
      exact cellsFrom_cell q
section
variable {G : Gd} {cx : Cx} {sc csc : Scope} {ρ₁ ρ₀ : AEnv} {S₁ : Addr → Prop} {h₁ : Heap} {wr : List Addr} {k : Nat}
noncomputable def compHeap (h₁ : Heap) (csc : Scope) : Heap := pushCells ((h₁.push { cls := .type "list", data := .seq ([] : List Value).toArray }).push { cls := .type "dict", data := .dict #[] }) csc.names
theorem compHeap_keeps {b : Addr} {o : Obj} (e : h₁.get? b = some o) : (compHeap h₁ csc).get? b = some o := pushCells_keeps _ _ _ _ (Heap.get?_push_of_some _ (Heap.get?_push_of_some _ e))
theorem CI.init (g : CG G cx sc csc ρ₁ S₁ h₁ wr (h₁.objs.size + 1) ρ₀) (sh : ∀ b ∈ wr, ∃ o, h₁.get? b = some o ∧ Iterish o) : CI G cx sc csc S₁ h₁ wr (h₁.objs.size + 1) S₁ (compHeap h₁ csc) := by
  have hs : ((h₁.push { cls := .type "list", data := .seq ([] : List Value).toArray }).push { cls := .type "dict", data := .dict #[] }).objs.size = h₁.objs.size + 1 + 1 := by rw [Heap.size_push, Heap.size_push]
  have ns : (compHeap h₁ csc).Ns (h₁.objs.size + 1) fun _ => none := by
    have := (Heap.Ns.new (h₁.push { cls := .type "list", data := .seq ([] : List Value).toArray }) (.type "dict")).keeps (pushCells_keeps csc.names _)
    rw [Heap.size_push] at this
    exact this
  have cell : ∀ x c, (compCells csc cx.env (h₁.objs.size + 1)).lookup x = some c → (csc.names.lookup x = some .free ∧ cx.env.cells.lookup x = some c) ∨ ((compHeap h₁ csc).IsCell c none ∧ h₁.objs.size + 2 ≤ c) := fun x c q => by
    rcases g.cellOf q with ⟨hc, _⟩ | ⟨a, b, _⟩
    · unfold compCells at q
      rw [← hs] at q
      rcases cellsFrom_cell q with ⟨c', q', rfl⟩ | ⟨q', hl⟩
      · rcases closL_lookup q' with q' | q'
        · obtain ⟨v, o, e, _⟩ := g.r.cells x c' q'
          exact absurd (Heap.lt_size e) (Nat.not_lt.mpr (Nat.le_of_lt (Nat.lt_of_succ_lt hc)))
        · cases q'
      · rw [hs] at hl; exact .inr ⟨q', hl⟩
    · exact .inl ⟨a, b⟩
  refine { aft := ⟨fun b o _ e => ⟨o.slots, compHeap_keeps e, fun _ => rfl⟩, fun b hb => let ⟨o, e, _⟩ := sh b hb; ⟨o, compHeap_keeps e⟩, sh, fun _ q => q, fun b q => .inl q, fun b q => let ⟨o, e⟩ := g.r.sdom b q; ⟨o, compHeap_keeps e⟩⟩, base := fun b o e => compHeap_keeps (g.r.base b o e), ns := ⟨_, ns⟩, cells := fun x c q => ?_, sloc := fun q => ?_, scell := fun x c q q' => ?_, live := fun x a hd q => ?_ }
  · rcases cell x c q with ⟨_, q⟩ | ⟨q, _⟩
    · obtain ⟨v, o, e, hd⟩ := g.r.cells x c q
      exact ⟨v, o, compHeap_keeps e, hd⟩
    · exact ⟨_, q⟩
  · obtain ⟨o, e⟩ := g.r.sdom _ q
    exact absurd (Heap.lt_size e) (Nat.not_lt.mpr (Nat.le_succ _))
  · rcases cell x c q with ⟨_, q⟩ | ⟨_, hl⟩
    · exact g.r.scell x c q q'
    · obtain ⟨o, e⟩ := g.r.sdom _ q'
      exact absurd (Heap.lt_size e) (Nat.not_lt.mpr (Nat.le_of_succ_le (Nat.le_of_succ_le hl)))
  · rcases q with ⟨a1, m, n, e⟩ | ⟨a1, c, q, n⟩
    · have := ns.agree n x; rw [e] at this; cases this
    · rcases cell x c q with ⟨hf, hl⟩ | ⟨q', _⟩
      · obtain ⟨v, n₀⟩ := g.r.cells x c hl
        have n₁ : (compHeap h₁ csc).IsCell c v := n₀.keeps fun b o e => compHeap_keeps e
        cases IsCell.inj n n₁
        obtain ⟨_, hk⟩ := g.free (mem_of_lookup' hf)
        have hkk : cx.env.kindOf x = sc.names.lookup x := by unfold Env.kindOf; rw [g.hsc]
        obtain ⟨o, e⟩ := g.r.live x a hd (.inr ⟨by rw [hkk]; exact hk, c, hl, n₀⟩)
        exact ⟨o, compHeap_keeps e⟩
      · cases IsCell.inj n q'
end
noncomputable def eComp (sc csc : Scope) (src : AEnv → Res (List D)) (b : D → AEnv → Option AEnv) (t : AEnv → Res Bool) (f : AEnv → Res T) : AEnv → Res T := fun ρ => match capL sc csc ρ (varNames (relabelS csc sc)) with
  | none => .stuck
  | some _ => match src ρ with
    | .ok ds ρ₁ => (match capL sc csc ρ₁ (varNames (relabelS csc sc)) with
      | some ρ₀ => (match compN b t f ρ₀ ds [] with
        | some out => .ok (.ow true (.list out)) ρ₁
        | none => .stuck)
      | none => .stuck)
    | _ => .stuck
theorem eComp_ok {sc csc : Scope} {src : AEnv → Res (List D)} {b : D → AEnv → Option AEnv} {t : AEnv → Res Bool} {f : AEnv → Res T} {ρ : AEnv} (h : eComp sc csc src b t f ρ ≠ .stuck) :
    ∃ ρ' ds ρ₁ ρ₀ out, capL sc csc ρ (varNames (relabelS csc sc)) = some ρ' ∧ src ρ = .ok ds ρ₁ ∧ capL sc csc ρ₁ (varNames (relabelS csc sc)) = some ρ₀ ∧ compN b t f ρ₀ ds [] = some out ∧ eComp sc csc src b t f ρ = .ok (.ow true (.list out)) ρ₁ := by
  unfold eComp at h ⊢
  split at h
  · exact absurd rfl h
  · rename_i ρ' h1
    split at h
    · rename_i ds ρ₁ h2
      split at h
      · rename_i ρ₀ h3
        split at h
        · rename_i out h4
          exact ⟨ρ', ds, ρ₁, ρ₀, out, h1, h2, h3, h4, rfl⟩
        · exact absurd rfl h
      · exact absurd rfl h
    · exact absurd rfl h
theorem storeL {G : Gd} {cx : Cx} {sc : Scope} {ρ : AEnv} {S : Addr → Prop} {i : Nat} {x : Str} {v : Value} {t : T} {s : Shared} {E : Value → Shared → Prop} {Q : Unit → Shared → Prop} (ok : CxOk G cx sc 0) (fn : FnCx G cx) (r : Rel G cx sc ρ S s.heap) (hx : (varNames sc)[i]? = some x) (hk : sc.names.lookup x = some .local) (hcl : isDirty x = false ∨ ∃ d, t = .sh d) (tv : TTmp cx S s.heap v t)
    (hQ : ∀ h' tk, Rel G cx sc (ρ.set i (some t)) S h' → Ext S s.heap S h' → Heap.SameBut cx.env.locals s.heap h' → (∀ y w, y ≠ x → Var cx.env h' y w → Var cx.env s.heap y w) → Q () { s with heap := h', toks := tk }) : wpAny G.M cx.A (storeName cx.env x v) Q E s := by
  have hkf : cx.env.scope.kind = .function := by rw [ok.hsc]; exact ok.hk
  have kd : ∀ y, cx.env.kindOf y = sc.names.lookup y := fun y => by unfold Env.kindOf; rw [ok.hsc]
  obtain ⟨m, hm⟩ := r.ns
  have hm0 := hm
  obtain ⟨oL, es, ep, eL, dL, _⟩ := hm0
  refine wpAny_storeName_local ((kd x).trans hk) hm (fun h' n' k => ?_) (by rw [hkf]; rfl)
  have n'' := n'
  obtain ⟨oL', es', ep', eL', dL', _⟩ := n''
  have cellsame : ∀ y c, cx.env.cells.lookup y = some c → ∀ w, s.heap.IsCell c w → h'.IsCell c w := fun y c q w n => n.sameBut k (fn.loc y c q)
  have vx : Var cx.env h' x v := .inl ⟨(kd x).trans hk, _, n', by simp⟩
  have hf : ∀ y w, y ≠ x → Var cx.env h' y w → Var cx.env s.heap y w := fun y w hy q => by
    rcases q with ⟨a, m₁, b, c⟩ | ⟨a, c, b, d⟩
    · refine .inl ⟨a, m, hm, ?_⟩
      have := b.agree n' y
      rw [if_neg hy] at this
      rw [← this]; exact c
    · obtain ⟨w₀, n₀⟩ := r.cells y c b
      exact .inr ⟨a, c, b, by rw [IsCell.inj d (cellsame y c b _ n₀)]; exact n₀⟩
  obtain ⟨r', x'⟩ := r.store (loc := cx.env.locals) (i := i) (x := x) (v := v) (t := t) fn.bh ok.nodup hx eL (by rintro (⟨_, vs, n, q⟩ | ⟨vs, q⟩) <;> (rw [dL] at q; cases q)) (fun vs n q => by rw [dL] at q; cases q) r.sloc fn.lnew (.inl rfl) k
    ⟨oL', eL', fun _ => ⟨es', ep', dL'⟩⟩ ⟨_, n'⟩ (fun y c q => let ⟨w, n⟩ := r.cells y c q; ⟨w, cellsame y c q w n⟩) vx
    (fun y w hy q => by
      rcases q with ⟨a, m₁, b, c⟩ | ⟨a, c, b, d⟩
      · refine .inl ⟨a, _, n', ?_⟩
        rw [if_neg hy, ← b.agree hm y]; exact c
      · exact .inr ⟨a, c, b, cellsame y c b _ d⟩)
    hf hcl tv.st
  exact hQ h' _ r' x' k hf
theorem Rel.butDict {G : Gd} {cx : Cx} {sc : Scope} {ρ : AEnv} {S : Addr → Prop} {h h' : Heap} {C : Addr} {oC : Obj} {es : Array DictEntry} {ep : Nat} (r : Rel G cx sc ρ S h) (e : h.get? C = some oC) (hd : oC.data = .dict es ep) (hS : ¬ S C) (hl : C ≠ cx.env.locals) (h0 : cx.h₀.get? C = none) (hB : G.B.get? C = none) (hff : ∀ env ∈ cx.fs, env.frame ≠ some C) (hv : ∀ (j : Nat) (y : Str) (m : Bool) (ks : List (List Int)) (ds : List D), (varNames sc)[j]? = some y → ρ[j]? = some (some (.ow m (.dict ks ds))) → ¬ Var cx.env h y (.ref C)) (k : Heap.SameBut C h h') (e' : ∃ o, h'.get? C = some o) :
    Rel G cx sc ρ S h' ∧ Ext S h S h' ∧ VarSame cx.env h h' ∧ (∀ y w, Var cx.env h' y w → Var cx.env h y w) := by
  have hi : ¬ Imm oC := by rintro (⟨_, vs, n, q⟩ | ⟨vs, q⟩) <;> (rw [hd] at q; cases q)
  have x' : Ext S h S h' := RV.but e hi hS (fun b o hb eb => (k.2 b hb).trans eb) e'
  have nsame : ∀ m, h.Ns cx.env.locals m → h'.Ns cx.env.locals m := fun m n => n.sameBut k (Ne.symm hl)
  have cne : ∀ y c, cx.env.cells.lookup y = some c → c ≠ C := fun y c q => by
    rintro rfl
    obtain ⟨v, o, e'', hd'⟩ := r.cells y _ q
    rw [e] at e''; cases e''; rw [hd] at hd'; cases hd'
  have csame : ∀ y c, cx.env.cells.lookup y = some c → ∀ w, h.IsCell c w → h'.IsCell c w := fun y c q w n => n.sameBut k (cne y c q)
  have same : VarSame cx.env h h' := fun y w q => by
    rcases q with ⟨a, m₁, b, c⟩ | ⟨a, c, b, d⟩
    · exact .inl ⟨a, m₁, nsame m₁ b, c⟩
    · exact .inr ⟨a, c, b, csame y c b _ d⟩
  have hf : ∀ y w, Var cx.env h' y w → Var cx.env h y w := fun y w q => by
    rcases q with ⟨a, m₁, b, c⟩ | ⟨a, c, b, d⟩
    · obtain ⟨m₀, n₀⟩ := r.ns
      exact .inl ⟨a, m₀, n₀, by rw [(nsame m₀ n₀).agree b y]; exact c⟩
    · obtain ⟨w₀, n₀⟩ := r.cells y c b
      exact .inr ⟨a, c, b, by rw [IsCell.inj d (csame y c b _ n₀)]; exact n₀⟩
  refine ⟨⟨fun b o q => (k.2 b (by rintro rfl; rw [hB] at q; cases q)).trans (r.base b o q), fun b o q => ?_, fun env he => ?_, let ⟨m, n⟩ := r.ns; ⟨m, nsame m n⟩, fun y c q => let ⟨w, n⟩ := r.cells y c q; ⟨w, csame y c q w n⟩, fun b q => let ⟨o, eo⟩ := r.sdom b q; x'.dom b o eo, r.sok, r.sloc, r.scell, fun y b hdy q => let ⟨o, eo⟩ := r.live y b hdy (hf y _ q); x'.dom b o eo, r.clean, fun v q => let ⟨C, e⟩ := r.hok v q; ⟨C, e.ext x'⟩, fun j y u hy hu => ?_, fun j l y z m m' d d' u hy hz hj hl a b => r.inj j l y z m m' d d' u hy hz hj hl (hf y _ a) (hf z _ b), r.dok.back hf⟩, x', same, hf⟩
  · obtain ⟨sl, q₁, k₁⟩ := r.keep b o q
    exact ⟨sl, (k.2 b (by rintro rfl; rw [h0] at q; cases q)).trans q₁, k₁⟩
  · obtain ⟨p, L, o, b, c, d, es, n, q⟩ := r.ff env he
    exact ⟨p, L, o, b, c, (k.2 L (by rintro rfl; exact hff env he b)).trans d, es, n, q⟩
  · obtain ⟨w, hw', tw⟩ := r.vars j y u hy hu
    refine ⟨w, same y w hw', ?_⟩
    cases u with
    | sh d => exact RV.ext x' tw
    | ow m d =>
      obtain ⟨b, rfl, n1, ow, n2⟩ := tw
      refine ⟨b, rfl, n1, ow.ext x' fun o eo => ⟨o.slots, (k.2 b ?_).trans eo, fun _ => rfl⟩, n2⟩
      rintro rfl
      rcases ow.cases with ow | ⟨ks, ds, rfl, _⟩
      · obtain ⟨o', ho', _, vs, n, hd'⟩ := ow.cls
        rw [e] at ho'; cases ho'; rw [hd] at hd'; cases hd'
      · exact hv j y m ks ds hy hu hw'
noncomputable def CPost (M : Model) (A : Around) (E : Value → Shared → Prop) (use : Option (Value → Sem Unit)) (Q : Value → Shared → Prop) (acc : Value) (C : Addr) (r : Result) (s' : Shared) : Prop := match r, use with
  | .ok _, none => ∃ m, s'.heap.Ns C m ∧ ∀ h' m', h'.Ns C m' → Heap.SameBut C s'.heap h' → Q acc { s' with heap := h' }
  | .ok _, some u => wpAny M A (u acc) (fun _ s'' => ∃ m, s''.heap.Ns C m ∧ ∀ h' m', h'.Ns C m' → Heap.SameBut C s''.heap h' → Q .none { s'' with heap := h' }) E s'
  | .error _, _ => False
theorem wp_comprehension {M : Model} {A : Around} {E : Value → Shared → Prop} {s : Shared} {env : Env} {e : Expr} {scope : Scope} {pos : Pos} {newAcc first : Sem Value} {g : Comprehension} {gs : List Comprehension} {cl : List (Str × Addr)} {use : Option (Value → Sem Unit)} {Q : Value → Shared → Prop}
    (hcl : clausesOf e = g :: gs) (hs : ∀ x, foldedSetIterable g.iter env x = pure x) (hclos : closureFor scope env = pure cl) (hkind : scope.kind = .function) (hnames : ∀ x ∈ scope.names, x.2 = .local → scope.names.lookup x.1 = some .local)
    (h : wpAny M A first (fun x s₁ => wpAny M A (pyIter x) (fun it s₂ => wpAny M A newAcc (fun acc s₃ => wpAny M A (newFunctionEnv scope env.globals cl [] env.qual none .none (some env)) (fun cenv s₄ =>
      codeAny M A (.compStart e 0 it acc { cenv with scope := relabel scope env }) (CPost M A E use Q acc cenv.locals) s₄) E s₃) E s₂) E s₁) E s) :
    wpAny M A (comprehension e scope env pos newAcc false first use) Q E s := by
  unfold comprehension
  rw [hclos, hcl]
  refine wpAny_bind (wpAny_mono h (fun x s₁ h₁ => wpAny_bind (wpAny_standAt (wpAny_bind (wpAny_of_eq (hs x) (wpAny_bind (wpAny_holding (wpAny_mono h₁ (fun it s₂ h₂ => wpAny_standIf (wpAny_bind (wpAny_mono h₂ (fun acc s₃ h₃ => wpAny_bind (wpAny_pure (wpAny_bind (wpAny_mono h₃ (fun cenv s₄ h₄ => ?_) fun _ _ z => z)))) fun _ _ z => z))) fun _ _ z => z))))))) fun _ _ z => z)
  dsimp only
  have loc : ∀ x : Str × NameKind, x ∈ scope.names → x.2 = .local → Env.kindOf { cenv with scope := relabel scope env } x.1 = some .local := fun x hx hl => lookup_relabel_local (hnames x hx hl)
  have v1 : ∀ x ∈ (scope.names.filter fun x => (x.2 == .local || x.2 == .cell) && x.1 != (".0" : Str)).reverse, x.2 = .local → Env.kindOf { cenv with scope := relabel scope env } x.1 = some .local := fun x hx => loc x (List.mem_filter.mp (List.mem_reverse.mp hx)).1
  refine wpAny_holding (wpAny_bind (wpAny_attempt (wpAny_holding (wpAny_run (codeAny_mono h₄ fun r s' hr => ?_)))))
  cases r with
  | error x => cases use <;> exact hr.elim
  | ok f =>
    cases use with
    | none =>
      obtain ⟨m, hn, hr⟩ := hr
      exact wpAny_bind (wpAny_holding (wpAny_comp_letGo (cenv := { cenv with scope := relabel scope env }) hkind _ s' m v1 hn fun h' m' hn' hs' => wpAny_pure (hr h' m' hn' hs')))
    | some u =>
      refine wpAny_bind (wpAny_rule (wpAny_bind (wpAny_holding (wpAny_mono hr (fun _ s'' hr' => ?_) fun _ _ z => z))))
      obtain ⟨m, hn, hr'⟩ := hr'
      refine wpAny_bind (wpAny_comp_letGo (cenv := { cenv with scope := relabel scope env }) hkind _ s'' m (fun x hx => ?_) hn fun h' m' hn' hs' => wpAny_pure (hr' h' m' hn' hs'))
      rcases List.mem_append.mp hx with q | q
      · exact v1 x (List.mem_of_mem_drop q)
      · exact v1 x (List.mem_of_mem_take q)
theorem After.varBack {G : Gd} {cx : Cx} {sc : Scope} {ρ : AEnv} {X : List Addr} {S S' : Addr → Prop} {h h' : Heap} (k : After X S h S' h') (r : Rel G cx sc ρ S h) {y : Str} {w : Value} (q : Var cx.env h' y w) : Var cx.env h y w := by
  rcases q with ⟨a, m₁, b, c⟩ | ⟨a, c, b, d⟩
  · obtain ⟨m₀, n₀⟩ := r.ns
    exact .inl ⟨a, m₀, n₀, by rw [(k.ns n₀).agree b y]; exact c⟩
  · obtain ⟨w₀, n₀⟩ := r.cells y c b
    exact .inr ⟨a, c, b, by rw [IsCell.inj d (k.cell n₀)]; exact n₀⟩
section
variable {G : Gd} {k : Nat} {sc csc : Scope}
theorem comp_core {cx : Cx} {ρ : AEnv} {S : Addr → Prop} {s : Shared} {tg iter elt : Expr} {ifs : List Expr} {pos p : Pos} {xs : List Str} {src : AEnv → Res (List D)} {b : D → AEnv → Option AEnv} {t : AEnv → Res Bool} {f : AEnv → Res T} {use : Option (Value → Sem Unit)} {Q : Value → Shared → Prop} {E : Value → Shared → Prop}
    (hi : SimI G k sc tg iter src) (ha : SimA G (relabelS csc sc) tg xs b) (hxs : ∀ x ∈ xs, csc.names.lookup x = some .local ∨ csc.names.lookup x = some .cell) (ht : SimTF G k (relabelS csc sc) ifs t) (he : Sim G k (relabelS csc sc) elt f) (hok : compOk sc csc = true)
    (hs : ∀ env x, foldedSetIterable iter env x = pure x) (ok : CxOk G cx sc k) (r : Rel G cx sc ρ S s.heap) (nst : eComp sc csc src b t f ρ ≠ .stuck)
    (fin : ∀ out ρ₁ L C S' h' tk, eComp sc csc src b t f ρ = .ok (.ow true (.list out)) ρ₁ → Rel G cx sc ρ₁ S' h' → Ext S s.heap S' h' → VarSame cx.env s.heap h' → Fresh cx S' h' (.ref L) (.list out) → (∃ m, h'.Ns C m) → ¬ S' C → C ≠ L → C ≠ cx.env.locals → cx.h₀.get? C = none → G.B.get? C = none → s.heap.get? C = none → (∀ env ∈ cx.fs, env.frame ≠ some C) → (∀ (j : Nat) (y : Str) (m : Bool) (ks : List (List Int)) (ds : List D), (varNames sc)[j]? = some y → ρ₁[j]? = some (some (.ow m (.dict ks ds))) → ¬ Var cx.env h' y (.ref C)) →
      CPost G.M cx.A E use Q (.ref L) C (.ok .next) { s with heap := h', toks := tk }) :
    wpAny G.M cx.A (comprehension (.ListComp elt [⟨tg, iter, ifs, 0⟩] csc pos) csc cx.env p (newList []) false (eval iter cx.env) use) Q E s := by
  have hok0 := hok
  unfold compOk at hok0
  simp only [Bool.and_eq_true, beq_iff_eq] at hok0
  have hkind : csc.kind = .function := hok0.1.1
  have hnd : (csc.names.map (·.1)).Nodup := nodupB_ok hok0.1.2
  obtain ⟨ρ', ds, ρ₁, ρ₀, out, c1, c2, c3, c4, c5⟩ := eComp_ok nst
  have g₀ : CG G cx sc csc ρ S s.heap [] s.heap.objs.size ρ' := ⟨ok.hsc, r, (fun b hb => by cases hb), Nat.le_refl _, hok, c1⟩
  have hcl : ∀ x ∈ csc.names, x.2 = .free → ∃ c, cx.env.cells.lookup x.1 = some c := fun x hx hf => by
    obtain ⟨n, kk⟩ := x
    cases hf
    obtain ⟨c, v, i, t, h1, _⟩ := g₀.taken (lookup_mem hnd hx)
    exact ⟨c, h1⟩
  refine wp_comprehension (use := use) rfl (hs cx.env) (closureFor_eq hcl) hkind (fun x hx hl => by
    obtain ⟨n, kk⟩ := x
    cases hl
    exact lookup_mem hnd hx) ?_
  refine hi cx ok ρ S s r _ E ?_
  rw [c2]
  intro I wr St S₁ h₁ t₁ r₁ it st nw x₁ v₁
  have new : ∀ b ∈ wr, cx.h₀.get? b = none ∧ G.B.get? b = none := fun b hb => ⟨r.keep.none (nw b hb), by
    cases q : G.B.get? b with
    | none => rfl
    | some o => have := r.base b o q; rw [nw b hb] at this; cases this⟩
  have g : CG G cx sc csc ρ₁ S₁ h₁ wr (h₁.objs.size + 1) ρ₀ := ⟨ok.hsc, r₁, new, Nat.le_succ _, hok, c3⟩
  have sh := it.shape 0 S₁ h₁ st
  have ci := CI.init g sh
  refine wpAny_newObj_type (newFunctionEnv_comp ?_) (by show ([] : List Value).toArray.size ≤ sizeLine; simp)
  dsimp only
  rw [Heap.size_push]
  have envE : ({ scope := relabel csc cx.env, locals := h₁.objs.size + 1, globals := cx.env.globals, cells := cellsFrom (h₁.objs.size + 1 + 1) csc.names (closL cx.env csc.names []), qual := cx.env.qual, func := none, code := cx.env.code, frame := cx.env.frame, builtins := cx.env.builtins } : Env) = compE csc sc cx.env (h₁.objs.size + 1) := by
    unfold compE compCells
    rw [relabel_eq ok.hsc]
  rw [envE]
  have hn₁ : h₁.get? h₁.objs.size = none := Heap.get?_none_of_le (Nat.le_refl _)
  have hn₂ : h₁.get? (h₁.objs.size + 1) = none := Heap.get?_none_of_le (Nat.le_succ _)
  have loop : codeAny G.M cx.A (.compLoop (.ListComp elt [⟨tg, iter, ifs, 0⟩] csc pos) 0 (.ref I) (.ref h₁.objs.size) (compE csc sc cx.env (h₁.objs.size + 1))) (CPost G.M cx.A E use Q (.ref h₁.objs.size) (h₁.objs.size + 1)) { s with heap := compHeap h₁ csc, toks := t₁ } := by
    refine comp_loop (s := { s with heap := compHeap h₁ csc, toks := t₁ }) (n := 0) g ok it ha hxs ht he ci ?_ hn₁ (Nat.lt_succ_self _) (fun q => ?_) (it.ext 0 S₁ h₁ S₁ _ st (Ext.of_keeps fun b o e => compHeap_keeps e)) (hni_of r.hOk nw) c4 fun S' h' tk ci' own hSL => ?_
    · exact pushCells_keeps _ _ _ _ (Heap.get?_push_of_some _ (Heap.get?_push_size _ rfl))
    · obtain ⟨o, e⟩ := r₁.sdom _ q; rw [hn₁] at e; cases e
    · obtain ⟨ro, same⟩ := r₁.after ci'.aft ci'.base fun b hb => (new b hb).1
      refine fin out ρ₁ h₁.objs.size (h₁.objs.size + 1) S' h' tk c5 ro (ci'.aft.ext x₁ nw) (v₁.trans same) ⟨_, rfl, hSL, own, r₁.keep.none hn₁, fun x hd q => ?_⟩ ci'.ns ci'.sloc (Nat.succ_ne_self _) ?_ (r₁.keep.none hn₂) ?_ (x₁.none hn₂) (fun env he q => ?_) fun j y m ks ds hy hj q => ?_
      rotate_right
      · obtain ⟨o, e⟩ := r₁.live y _ (r₁.clean j y m _ hy hj) (ci'.aft.varBack r₁ q)
        rw [hn₂] at e; cases e
      · obtain ⟨o, e⟩ := r₁.live x _ hd (ci'.aft.varBack r₁ q)
        rw [hn₁] at e; cases e
      · intro q
        obtain ⟨m, o, _, _, e, _⟩ := r₁.ns
        rw [← q, hn₂] at e; cases e
      · cases q : G.B.get? (h₁.objs.size + 1) with
        | none => rfl
        | some o => have := r₁.base _ o q; rw [hn₂] at this; cases this
      · obtain ⟨_, L, o, b, _, d, _⟩ := r₁.ff env he
        rw [q] at b; cases b
        rw [hn₂] at d; cases d
  exact codeAny_compStart_list loop (it.self 0 S₁ _ _ _ (it.ext 0 S₁ h₁ S₁ _ st (Ext.of_keeps fun b o e => compHeap_keeps e)) loop)
theorem sim_ListComp {tg iter elt : Expr} {ifs : List Expr} {pos : Pos} {xs : List Str} {src : AEnv → Res (List D)} {b : D → AEnv → Option AEnv} {t : AEnv → Res Bool} {f : AEnv → Res T} (hi : SimI G k sc tg iter src) (ha : SimA G (relabelS csc sc) tg xs b) (hxs : ∀ x ∈ xs, csc.names.lookup x = some .local ∨ csc.names.lookup x = some .cell)
    (ht : SimTF G k (relabelS csc sc) ifs t) (he : Sim G k (relabelS csc sc) elt f) (hok : compOk sc csc = true) (hs : ∀ env x, foldedSetIterable iter env x = pure x) : Sim G k sc (.ListComp elt [⟨tg, iter, ifs, 0⟩] csc pos) (eComp sc csc src b t f) := by
  intro cx ok ρ S s r Q E out
  rw [eval_ListComp]
  refine comp_core hi ha hxs ht he hok hs ok r (fun q => by rw [q] at out; exact out) fun ds ρ₁ L C S' h' tk e r' x' v' fr ns hSC hCL hCl hC0 hCB hCs hff hCv => ?_
  rw [e] at out
  obtain ⟨m, n⟩ := ns
  refine ⟨m, n, fun h'' m'' n'' k'' => ?_⟩
  obtain ⟨oC, es, ep, eC, dC, _⟩ := n
  obtain ⟨oC', _, _, eC', _⟩ := n''
  obtain ⟨r'', x'', v''⟩ := r'.butDict eC dC hSC hCl hC0 hCB hff hCv k'' ⟨_, eC'⟩
  obtain ⟨a, ea, n1, ow, n2, nv⟩ := fr
  cases ea
  exact out (.ref L) h'' tk S' r'' ⟨L, rfl, n1, ow.ext x'' fun o eo => (k''.2 L (Ne.symm hCL)).trans eo, n2, fun x hd q => nv x hd (v''.2 x _ q)⟩ (x'.trans x'') fun z => v'.trans v''.1
theorem simS_AssignComp {tg iter elt : Expr} {ifs : List Expr} {pos yp spos : Pos} {xs : List Str} {y : Str} {i : Nat} {src : AEnv → Res (List D)} {b : D → AEnv → Option AEnv} {t : AEnv → Res Bool} {f : AEnv → Res T} (hi : SimI G k sc tg iter src) (ha : SimA G (relabelS csc sc) tg xs b) (hxs : ∀ x ∈ xs, csc.names.lookup x = some .local ∨ csc.names.lookup x = some .cell)
    (ht : SimTF G k (relabelS csc sc) ifs t) (he : Sim G k (relabelS csc sc) elt f) (hok : compOk sc csc = true) (hs : ∀ env x, foldedSetIterable iter env x = pure x) (hy : (varNames sc)[i]? = some y) (hk : sc.names.lookup y = some .local) (hcl : isDirty y = false)
    (hsw : ∀ env : Env, env.scope = sc → swapsWith (.ListComp elt [⟨tg, iter, ifs, 0⟩] csc pos) (some (.Name y yp)) spos.line env = pure true) : SimS G k sc (.Assign [.Name y yp] (.ListComp elt [⟨tg, iter, ifs, 0⟩] csc pos) spos) (sAssign i (eComp sc csc src b t f)) := by
  intro cx ok fn ρ S s r Q E out
  rw [exec_Assign_Name_used _ _ _ _ (hsw cx.env ok.hsc)]
  refine wpAny_bind (wpAny_standAt (wpAny_bind ?_))
  rw [arm_evalThenUse_ListComp]
  refine wpAny_bind ?_
  unfold sAssign at out
  refine comp_core (use := some (assign (.Name y yp) cx.env)) hi ha hxs ht he hok hs ok r (fun q => by rw [q] at out; exact out) fun ds ρ₁ L C S' h' tk e r' x' v' fr ns hSC hCL hCl hC0 hCB hCs hff hCv => ?_
  rw [e] at out
  show wpAny G.M cx.A (assign (.Name y yp) cx.env (.ref L)) _ E _
  rw [PySem.assign_Name]
  refine wpAny_bind (wpAny_standAt (wpAny_bindName ?_))
  refine storeL (s := { s with heap := h', toks := tk }) (ok.mono (Nat.zero_le _)) fn.toFnCx r' hy hk (.inl hcl) (t := .ow true (.list ds)) fr fun h₂ t₂ r₂ x₂ k₂ f₂ => ?_
  obtain ⟨m, n⟩ := ns
  have n₂ : h₂.Ns C m := n.sameBut k₂ hCl
  refine ⟨m, n₂, fun h₃ m₃ n₃ k₃ => ?_⟩
  obtain ⟨oC, es, ep, eC, dC, _⟩ := n₂
  obtain ⟨oC', _, _, eC', _⟩ := n₃
  obtain ⟨r₃, x₃, v₃⟩ := r₂.butDict eC dC hSC hCl hC0 hCB hff (fun j z m ks ds' hz hj q => by
    have hj' := set_other hj (by intro q; cases q)
    refine hCv j z m ks ds' hz hj' (f₂ z _ ?_ q)
    rintro rfl
    obtain ⟨p1, e1⟩ := List.getElem?_eq_some_iff.mp hy
    obtain ⟨p2, e2⟩ := List.getElem?_eq_some_iff.mp hz
    cases (List.getElem_inj ok.nodup).mp (e1.trans e2.symm)
    by_cases hl : i < ρ₁.length
    · rw [List.getElem?_set_self hl] at hj; cases hj
    · rw [List.getElem?_eq_none (by rw [List.length_set]; omega)] at hj; cases hj) k₃ ⟨_, eC'⟩
  exact wpAny_pure (wpAny_pure (out .next h₃ t₂ S' r₃ trivial ((x'.trans x₂).trans x₃) fun z => by cases z))
end
end Mine
end

section
set_option Elab.async false
set_option maxRecDepth 100000
namespace Mine
open PySem PyProof.Rows
structure Gr (G : Gd) : Prop where
  ok : G.Ok
  tr : ∃ p loose, W.TopRead p loose G.mg G.mb G.B
  mbb : ∀ x : Str, x ≠ "__name__" → G.mb x = bootBuiltins x
theorem Gr.loud {G : Gd} (g : Gr G) : Gr G.loud := ⟨⟨g.ok.g, g.ok.b, g.ok.nolimit, g.ok.K⟩, g.tr, g.mbb⟩
noncomputable def fnAt (K : W.Frag) (a : Addr) : FuncData := match K.lookup a with | some ⟨_, _, .func fd, _⟩ => fd | _ => default
noncomputable def isFnAt (K : W.Frag) (a : Addr) : Bool := match K.lookup a with | some ⟨_, _, .func _, _⟩ => true | _ => false
noncomputable def stmtsOf (fd : FuncData) : List Stmt := match fd.body with | .stmts b => b | _ => []
theorem fn_at {G : Gd} (g : Gr G) {a : Addr} (h : isFnAt G.K a = true) : ∃ fo, G.B.get? a = some fo ∧ fo.data = .func (fnAt G.K a) := by
  unfold isFnAt at h
  unfold fnAt
  split at h
  · rename_i c d fd sl e
    exact ⟨_, g.ok.K _ _ e, rfl⟩
  · cases h
section
variable {G : Gd} {k : Nat} {sc : Scope} {x : Str} {p : Pos}
theorem nV (i : Nat) (hx : (varNames sc)[i]? = some x := by kernel_rfl) (hd : (x == ("__debug__" : Str)) = false := by kernel_rfl) (hn : (x == ("__classdict__" : Str)) = false := by kernel_rfl) : Sim G k sc (.Name x p) (eVar i) := sim_name hx hd hn
theorem nB (i : Nat) (hx : (varNames sc)[i]? = some x := by kernel_rfl) (hd : (x == ("__debug__" : Str)) = false := by kernel_rfl) (hn : (x == ("__classdict__" : Str)) = false := by kernel_rfl) : SimB G k sc (.Name x p) (eOp i) := simB_name hx hd hn
theorem gF (g : Gr G) (a : Addr) (e : W.nsIn G.K mainGlobals x = some (some (.ref a)) := by kernel_rfl) (ho : (G.K.lookup a).isSome = true := by kernel_rfl) (hx : sc.names.lookup x = some .globalImplicit := by kernel_rfl) (hd : (x == ("__debug__" : Str)) = false := by kernel_rfl) :
    Sim G k sc (.Name x p) (eConst (.glob (.ref a))) := by
  obtain ⟨o, ho⟩ := Option.isSome_iff_exists.mp ho
  exact sim_global g.ok hx (W.mg_of g.ok.K g.ok.g e) (fun b q => by cases q; exact ⟨o, g.ok.K _ _ ho⟩) hd
theorem gI (g : Gr G) (i : Int) (t : Tok) (e : W.nsIn G.K mainGlobals x = some (some (.int i t)) := by kernel_rfl) (hx : sc.names.lookup x = some .globalImplicit := by kernel_rfl) (hd : (x == ("__debug__" : Str)) = false := by kernel_rfl) :
    Sim G k sc (.Name x p) (eConst (.int i)) := sim_globalInt g.ok hx (W.mg_of g.ok.K g.ok.g e) hd
theorem gB (g : Gr G) (v : Value) (e : W.nsIn G.K mainGlobals x = some none := by kernel_rfl) (hv : bootBuiltins x = some v := by kernel_rfl) (hn : (x == ("__name__" : Str)) = false := by kernel_rfl) (hl : v.isRef = false := by rfl) (hx : sc.names.lookup x = some .globalImplicit := by kernel_rfl) (hd : (x == ("__debug__" : Str)) = false := by kernel_rfl) :
    Sim G k sc (.Name x p) (eConst (.glob v)) :=
  sim_builtin g.ok hx (W.mg_none_of g.ok.K g.ok.g e) ((g.mbb x (by simpa using hn)).trans hv) (fun a q => by subst q; cases hl) hd
variable {args : List Expr} {pos : Pos}
theorem cF (g : Gr G) (a : Addr) {k' : Nat} {F : List D → FOut} {fa : AEnv → Res (List Bv)} (hF : FnOK G k' (.ref a) F) (ha : SimBs G k sc args fa) (hk : k' ≤ k := by decide) (hf : isFnAt G.K a = true := by kernel_rfl) (e : W.nsIn G.K mainGlobals x = some (some (.ref a)) := by kernel_rfl) (ho : (G.K.lookup a).isSome = true := by kernel_rfl) (hx : sc.names.lookup x = some .globalImplicit := by kernel_rfl) (hd : (x == ("__debug__" : Str)) = false := by kernel_rfl) (hu : args.all unstarred = true := by kernel_rfl) :
    Sim G k sc (.Call (.Name x p) args [] pos) (eCall F fa) := by
  obtain ⟨fo, h1, h2⟩ := fn_at g hf
  exact sim_call (gF g a e ho hx hd) h1 h2 hF hk ha hu
theorem cB (g : Gr G) (v : Value) {F : List D → Option T} {fa : AEnv → Res (List Bv)} (hop : OpN G (fun vs => call v vs []) F) (ha : SimBs G k sc args fa) (e : W.nsIn G.K mainGlobals x = some none := by kernel_rfl) (hv : bootBuiltins x = some v := by kernel_rfl) (hn : (x == ("__name__" : Str)) = false := by kernel_rfl) (hl : v.isRef = false := by rfl) (hx : sc.names.lookup x = some .globalImplicit := by kernel_rfl) (hd : (x == ("__debug__" : Str)) = false := by kernel_rfl) (hu : args.all unstarred = true := by kernel_rfl) :
    Sim G k sc (.Call (.Name x p) args [] pos) (eOpN F fa) := sim_callB (gB g v e hv hn hl hx hd) (fun a q => by subst q; cases hl) hop ha hu
theorem aC {e : Expr} {rest : List Expr} {f : AEnv → Res Bv} {h : AEnv → Res (List Bv)} (he : SimB G k sc e f) (hr : SimBs G k sc rest h) (hs : unstarred e = true := by kernel_rfl) : SimBs G k sc (e :: rest) (eConsB f h) := simBs_cons he hr hs
theorem vC {e : Expr} {rest : List Expr} {f : AEnv → Res T} {h : AEnv → Res (List D)} (he : Sim G k sc e f) (hr : SimVs G k sc rest h) (hs : unstarred e = true := by kernel_rfl) : SimVs G k sc (e :: rest) (eCons f h) := simVs_cons he hr hs
theorem cmpV {l r : Expr} {op : CmpOp} {f h : AEnv → Res Bv} {F : D → D → Option T} (hl : SimB G k sc l f) (hr : SimB G k sc r h) (hop : Op2 G (compareOp op) F) (hm : behindInMarks op r = false := by kernel_rfl) : Sim G k sc (.Compare l [op] [r] pos) (eOp2 F f h) := sim_Compare1 hl hr hop hm
theorem cmpT {l r : Expr} {op : CmpOp} {f h : AEnv → Res Bv} {F : D → D → Option T} (hl : SimB G k sc l f) (hr : SimB G k sc r h) (hop : Op2 G (compareOp op) F) (hm : behindInMarks op r = false := by kernel_rfl) : SimT G k sc (.Compare l [op] [r] pos) (eTest2 F f h) := simT_Compare1 hl hr hop hm
theorem chT {l m r : Expr} {op op' : CmpOp} {f g h : AEnv → Res Bv} {F F' : D → D → Option T} (hl : SimB G k sc l f) (hm : SimB G k sc m g) (hr : SimB G k sc r h) (hop : Op2 G (compareOp op) F) (hop' : Op2 G (compareOp op') F') (hb : behindInMarks op' r = false := by kernel_rfl) : SimT G k sc (.Compare l [op, op'] [m, r] pos) (eChain F F' f g h) := simT_chain hl hm hr hop hop' hb
theorem callT {fn : Expr} {f : AEnv → Res Bv} (h : SimB G k sc (.Call fn args [] pos) f) : SimT G k sc (.Call fn args [] pos) (eTruth f) := simT_val h fun _ _ => rfl
theorem nameT {f : AEnv → Res Bv} (h : SimB G k sc (.Name x p) f) : SimT G k sc (.Name x p) (eTruth f) := simT_val h fun _ _ => rfl
theorem sub {value slice : Expr} {f g : AEnv → Res Bv} (hl : SimB G k sc value f) (hr : SimB G k sc slice g) (hs : ∀ o i, subscripted slice false o i = operate [o, i] (getItem o i) := by intro _ _; rfl) : Sim G k sc (.Subscript value slice pos) (eOp2 idxI f g) := sim_Subscript hl hr hs
theorem asg {value : Expr} {f : AEnv → Res T} (i : Nat) (h : Sim G k sc value f) (hx : (varNames sc)[i]? = some x := by kernel_rfl) (hk : (sc.names.lookup x == some .local || sc.names.lookup x == some .cell) = true := by kernel_rfl) (hcl : isDirty x = false := by kernel_rfl) (hs : ∀ env : Env, swapsWith value (some (.Name x p)) pos.line env = pure false := by intro _; rfl) : SimS G k sc (.Assign [.Name x p] value pos) (sAssign i f) :=
  simS_Assign h hx (by simpa using hk) hcl fun env _ => hs env
theorem retV (i : Nat) (hx : (varNames sc)[i]? = some x := by kernel_rfl) (hd : (x == ("__debug__" : Str)) = false := by kernel_rfl) (hn : (x == ("__classdict__" : Str)) = false := by kernel_rfl) : SimS G k sc (.Return (some (.Name x p)) pos) (sRetVar i) := simS_ReturnVar hx hd hn
theorem rais (g : Gr G) (C : Addr) {np cpos : Pos} {bm : List Value} {newId Bn initId : String} {fa : AEnv → Res (List D)} (FB : ExcBaseFacts Bn newId initId bm) (ha : SimVs G k sc args fa) (hq : G.quiet = true := by rfl) (e : W.nsIn G.K mainGlobals x = some (some (.ref C)) := by kernel_rfl) (q : W.excIn G.K C bm newId = true := by kernel_rfl) (hx : sc.names.lookup x = some .globalImplicit := by kernel_rfl) (hd : (x == ("__debug__" : Str)) = false := by kernel_rfl) (hu : args.all unstarred = true := by kernel_rfl) :
    SimS G k sc (.Raise (some (.Call (.Name x np) args [] cpos)) none pos) (sRaise C fa) := by
  obtain ⟨_, _, tr⟩ := g.tr
  exact simS_Raise g.ok hq (W.own_of_in g.ok.K tr e q) FB hx hd ha hu
theorem tryS (g : Gr G) (C' : Addr) (i : Nat) {body suite : List Stmt} {b₀ : Stmt} {n : Str} {np hp : Pos} {f h : AEnv → Res Fl} (hb : SimSs G k sc body f) (hs : SimSs G.loud k sc (b₀ :: suite) h) (hq : G.quiet = true := by rfl) (e : W.nsIn G.K mainGlobals x = some (some (.ref C')) := by kernel_rfl) (ho : (G.K.lookup C').isSome = true := by kernel_rfl) (hgx : sc.names.lookup x = some .globalImplicit := by kernel_rfl) (hd : (x == ("__debug__" : Str)) = false := by kernel_rfl)
    (hx : (varNames sc)[i]? = some n := by kernel_rfl) (hk : sc.names.lookup n = some .local := by kernel_rfl) (hdn : isDirty n = true := by kernel_rfl) (hty : W.typeIn G.K (.ref C') = some (.type "type") := by kernel_rfl) (hcl : (W.clsIn G.K C').isSome = true := by kernel_rfl) (hbe : W.mroIn G.K C' (.type "BaseException") = some true := by kernel_rfl) :
    SimS G k sc (.Try body [.ExceptHandler (some (.Name x np)) (some n) (b₀ :: suite) hp] [] [] pos) (sTry G.K C' i f h) := simS_Try g.ok hq hb hs (gF g.loud C' e ho hgx hd) hx hk hdn hty hcl hbe
theorem exM {e : Expr} {f : AEnv → Res T} (h : SimM G k sc e f) (hs : ∀ env : Env, swapsWith e none pos.line env = pure false := by intro _; rfl) : SimS G k sc (.Expr e pos) (sExpr (eVal f)) := simS_ExprM h hs
theorem appM {apos : Pos} {e : Expr} {f : AEnv → Res T} (i : Nat) (he : SimM G k sc e f) (hx : (varNames sc)[i]? = some x := by kernel_rfl) (hd : (x == ("__debug__" : Str)) = false := by kernel_rfl) (hn : (x == ("__classdict__" : Str)) = false := by kernel_rfl) (hu : ∀ env, backTo pos (starEach [e] env) = [(false, eval e env)] := by intro _; rfl) (hline : (apos.endLine == pos.line) = true := by rfl) : SimM G k sc (.Call (.Attribute (.Name x p) "append" apos) [e] [] pos) (eAppend i f) := sim_append he hx hd hn hu hline
theorem popM {apos : Pos} {e : Expr} {f : AEnv → Res Bv} (i : Nat) (he : SimB G k sc e f) (hx : (varNames sc)[i]? = some x := by kernel_rfl) (hd : (x == ("__debug__" : Str)) = false := by kernel_rfl) (hn : (x == ("__classdict__" : Str)) = false := by kernel_rfl) (hu : ∀ env, backTo pos (starEach [e] env) = [(false, eval e env)] := by intro _; rfl) (hline : (apos.endLine == pos.line) = true := by rfl) : SimM G k sc (.Call (.Attribute (.Name x p) "pop" apos) [e] [] pos) (ePop i f) := sim_pop he hx hd hn hu hline
theorem setI {ip : Pos} {ix value : Expr} {f : AEnv → Res Bv} {g : AEnv → Res T} (i : Nat) (hf : SimB G k sc ix f) (hg : Sim G k sc value g) (hx : (varNames sc)[i]? = some x := by kernel_rfl) (hd : (x == ("__debug__" : Str)) = false := by kernel_rfl) (hn : (x == ("__classdict__" : Str)) = false := by kernel_rfl)
    (hs : ∀ env : Env, swapsWithSole [.Subscript (.Name x p) ix ip] value pos.line env = pure false := by intro _; rfl) (hw : ∀ env : Env, swappedStores [.Subscript (.Name x p) ix ip] value env = pure none := by intro _; rfl) : SimS G k sc (.Assign [.Subscript (.Name x p) ix ip] value pos) (sSetItem i f g) := simS_SetItem hf hg hx hd hn (fun env _ => hs env) hw
theorem tgN (i : Nat) (hx : (varNames sc)[i]? = some x := by kernel_rfl) : SimA G sc (.Name x p) [x] (bName i) := simA_name hx
theorem tgT2 {y : Str} {py tp : Pos} {n : Nat} (i j : Nat) (hx : (varNames sc)[i]? = some x := by kernel_rfl) (hy : (varNames sc)[j]? = some y := by kernel_rfl) : SimA G sc (.Tuple [.Name x p, .Name y py] n tp) [x, y] (bTuple [i, j]) := simA_tuple (.cons hx (.cons hy .nil))
theorem forS {tg iter : Expr} {body : List Stmt} {src : AEnv → Res (List D)} {xs : List Str} {b : D → AEnv → Option AEnv} {f : AEnv → Res Fl} (hi : SimI G k sc tg iter src) (ht : SimA G sc tg xs b) (hb : SimSs G k sc body f) (hxs : (xs.all fun x => sc.names.lookup x == some .local || sc.names.lookup x == some .cell) = true := by kernel_rfl)
    (hs : ∀ env x, foldedSetIterable iter env x = pure x := by intro _ _; rfl) : SimS G k sc (.For tg iter body [] pos) (sFor src b f) := simS_For hi ht (fun x hx => by simpa using List.all_eq_true.mp hxs x hx) hb hs
theorem enu (g : Gr G) {es : List Expr} {n : Nat} {tp : Pos} {e : Expr} {f : AEnv → Res T} (h : Sim G k sc e f) (hq : G.quiet = true := by rfl) (he : W.nsIn G.K mainGlobals ("enumerate" : Str) = some none := by kernel_rfl) (hx : sc.names.lookup ("enumerate" : Str) = some .globalImplicit := by kernel_rfl) (hu : unstarred e = true := by kernel_rfl) : SimI G k sc (.Tuple es n tp) (.Call (.Name "enumerate" p) [e] [] pos) (eEnum f) :=
  simI_enum hq (gB g (.type "enumerate") he (by kernel_rfl) (by kernel_rfl) rfl hx (by kernel_rfl)) h hu
end
noncomputable def capOf (sc csc : Scope) : List (Option Nat) := (varNames (relabelS csc sc)).map fun x => if csc.names.lookup x == some .free then (varNames sc).findIdx? (· == x) else none
noncomputable def capI (ρ : AEnv) : List (Option Nat) → Option AEnv
  | [] => some []
  | none :: r => (capI ρ r).map (none :: ·)
  | some i :: r => match ρ[i]? with
    | some (some t) => (capI ρ r).map (some t.weak :: ·)
    | _ => none
noncomputable def capFound (sc csc : Scope) : Bool := csc.names.all fun x => x.2 != .free || ((varNames sc).findIdx? (· == x.1)).isSome
theorem capI_eq {sc csc : Scope} {ρ : AEnv} (hf : capFound sc csc = true) : ∀ (l : List Str), capL sc csc ρ l = capI ρ (l.map fun x => if csc.names.lookup x == some .free then (varNames sc).findIdx? (· == x) else none)
  | [] => rfl
  | x :: r => by
    rw [capL, List.map_cons, capI_eq hf r]
    unfold capOne
    by_cases hx : (csc.names.lookup x == some .free) = true
    · rw [if_pos hx, if_pos hx]
      have := List.all_eq_true.mp hf (x, .free) (mem_of_lookup' (beq_iff_eq.mp hx))
      simp only [bne_self_eq_false, Bool.false_or] at this
      obtain ⟨i, hi⟩ := Option.isSome_iff_exists.mp this
      rw [hi]
      simp only
      generalize List.map _ r = l'
      rw [capI]
      cases hr : ρ[i]? with
      | none => cases hq : capI ρ l' <;> rfl
      | some u =>
        cases u with
        | none => cases hq : capI ρ l' <;> rfl
        | some t => cases hq : capI ρ l' <;> rfl
    · rw [if_neg hx, if_neg hx, capI]
      generalize List.map _ r = l'
      cases hq : capI ρ l' <;> rfl
noncomputable def eCompI (cap : List (Option Nat)) (src : AEnv → Res (List D)) (b : D → AEnv → Option AEnv) (t : AEnv → Res Bool) (f : AEnv → Res T) : AEnv → Res T := fun ρ => match capI ρ cap with
  | none => .stuck
  | some _ => match src ρ with
    | .ok ds ρ₁ => (match capI ρ₁ cap with
      | some ρ₀ => (match compN b t f ρ₀ ds [] with
        | some out => .ok (.ow true (.list out)) ρ₁
        | none => .stuck)
      | none => .stuck)
    | _ => .stuck
theorem eCompI_eq {sc csc : Scope} {cap : List (Option Nat)} {src : AEnv → Res (List D)} {b : D → AEnv → Option AEnv} {t : AEnv → Res Bool} {f : AEnv → Res T} (hf : capFound sc csc = true) (hc : capOf sc csc = cap) : eComp sc csc src b t f = eCompI cap src b t f := by
  funext ρ
  unfold eComp eCompI
  rw [capI_eq hf, show (varNames (relabelS csc sc)).map _ = cap from hc]
  cases capI ρ cap with
  | none => rfl
  | some _ =>
    simp only
    cases src ρ with
    | ok ds ρ₁ =>
      simp only
      rw [capI_eq hf, show (varNames (relabelS csc sc)).map _ = cap from hc]
      all_goals rfl
    | exc _ _ => rfl
    | stuck => rfl
section
variable {G : Gd} {k : Nat} {sc csc : Scope} {tg iter elt : Expr} {ifs : List Expr} {pos : Pos} {xs : List Str} {src : AEnv → Res (List D)} {b : D → AEnv → Option AEnv} {t : AEnv → Res Bool} {f : AEnv → Res T}
theorem lc (cap : List (Option Nat)) (hi : SimI G k sc tg iter src) (ha : SimA G (relabelS csc sc) tg xs b) (ht : SimTF G k (relabelS csc sc) ifs t) (he : Sim G k (relabelS csc sc) elt f) (hxs : (xs.all fun x => csc.names.lookup x == some .local || csc.names.lookup x == some .cell) = true := by kernel_rfl) (hok : compOk sc csc = true := by kernel_rfl) (hfd : capFound sc csc = true := by kernel_rfl) (hc : capOf sc csc = cap := by kernel_rfl)
    (hs : ∀ env x, foldedSetIterable iter env x = pure x := by intro _ _; rfl) : Sim G k sc (.ListComp elt [⟨tg, iter, ifs, 0⟩] csc pos) (eCompI cap src b t f) := by
  rw [← eCompI_eq hfd hc]
  exact sim_ListComp hi ha (fun x hx => by simpa using List.all_eq_true.mp hxs x hx) ht he hok hs
theorem swaps_true {y : Str} {yp : Pos} {l : Nat} (hk : sc.kind = .function) (hy : sc.names.lookup y = some .local) (hl : (yp.line == pos.line) = true) (hn : (csc.names.any fun (n, k) => n == y && (k == .local || k == .cell)) = false) (env : Env) (he : env.scope = sc) : swapsWith (.ListComp elt [⟨tg, iter, ifs, 0⟩] csc pos) (some (.Name y yp)) l env = pure true := by
  show (pure (env.blockKind == .function && env.kindOf y == some .local && yp.line == pos.line && !(csc.names.any fun (n, k) => n == y && (k == .local || k == .cell))) : Sem Bool) = _
  have h1 : env.blockKind = .function := by
    unfold Env.blockKind
    rw [he, hk]
    rfl
  have h2 : env.kindOf y = some .local := by unfold Env.kindOf; rw [he]; exact hy
  rw [h1, h2, hl, hn]
  rfl
theorem asgC {y : Str} {yp spos : Pos} (i : Nat) (cap : List (Option Nat)) (hi : SimI G k sc tg iter src) (ha : SimA G (relabelS csc sc) tg xs b) (ht : SimTF G k (relabelS csc sc) ifs t) (he : Sim G k (relabelS csc sc) elt f) (hxs : (xs.all fun x => csc.names.lookup x == some .local || csc.names.lookup x == some .cell) = true := by kernel_rfl) (hok : compOk sc csc = true := by kernel_rfl) (hfd : capFound sc csc = true := by kernel_rfl) (hc : capOf sc csc = cap := by kernel_rfl)
    (hs : ∀ env x, foldedSetIterable iter env x = pure x := by intro _ _; rfl) (hy : (varNames sc)[i]? = some y := by kernel_rfl) (hk : sc.names.lookup y = some .local := by kernel_rfl) (hcl : isDirty y = false := by kernel_rfl) (hkk : sc.kind = .function := by kernel_rfl) (hl : (yp.line == pos.line) = true := by rfl) (hn : (csc.names.any fun (n, k) => n == y && (k == .local || k == .cell)) = false := by kernel_rfl) :
    SimS G k sc (.Assign [.Name y yp] (.ListComp elt [⟨tg, iter, ifs, 0⟩] csc pos) spos) (sAssign i (eCompI cap src b t f)) := by
  rw [← eCompI_eq hfd hc]
  exact simS_AssignComp hi ha (fun x hx => by simpa using List.all_eq_true.mp hxs x hx) ht he hok hs hy hk hcl (swaps_true hkk hk hl hn)
end
noncomputable def initI (n : Nat) (is : List Nat) (ds : List D) : AEnv := (List.range n).map fun j => ((is.zip ds).lookup j).map T.sh
noncomputable def runI (n : Nat) (is : List Nat) (f : AEnv → Res Fl) (ds : List D) : FOut := if ds.length = is.length then finF (f (initI n is ds)) else .stuck
noncomputable def idxsOf (vn ps : List Str) : List Nat := ps.map fun p => (vn.findIdx? (· == p)).getD vn.length
theorem idx_lookup {vn : List Str} (nd : vn.Nodup) {j : Nat} {x : Str} (hx : vn[j]? = some x) : ∀ (ps : List Str) (ds : List D), (ps.all fun p => vn.contains p) = true → (ps.zip ds).lookup x = ((idxsOf vn ps).zip ds).lookup j
  | [], _, _ => rfl
  | p :: ps, [], _ => by simp [idxsOf]
  | p :: ps, d :: ds, h => by
    rw [List.all_cons, Bool.and_eq_true_iff] at h
    have hp : p ∈ vn := by simpa using h.1
    obtain ⟨i, hi⟩ : ∃ i, vn.findIdx? (· == p) = some i := by
      cases q : vn.findIdx? (· == p) with
      | some i => exact ⟨i, rfl⟩
      | none => exact absurd (List.findIdx?_eq_none_iff.mp q p hp) (by simp)
    obtain ⟨h1, h2, _⟩ := List.findIdx?_eq_some_iff_getElem.mp hi
    have h2 : vn[i] = p := beq_iff_eq.mp h2
    have e : idxsOf vn (p :: ps) = i :: idxsOf vn ps := by unfold idxsOf; rw [List.map_cons, hi]; rfl
    rw [e, List.zip_cons_cons, List.zip_cons_cons, List.lookup_cons, List.lookup_cons, idx_lookup nd hx ps ds h.2]
    obtain ⟨j1, j2⟩ := List.getElem?_eq_some_iff.mp hx
    by_cases hxp : x = p
    · have : j = i := (List.getElem_inj nd).mp (j2.trans (hxp.trans h2.symm))
      simp [hxp, this]
    · have hji : ¬ j = i := fun q => hxp (by subst q; exact j2.symm.trans h2)
      have a1 : (x == p) = false := by simpa using hxp
      have a2 : (j == i) = false := by simpa using hji
      rw [a1, a2]
theorem initI_eq {sc : Scope} {ps : List Str} {ds : List D} (nd : (varNames sc).Nodup) (hp : (ps.all fun p => (varNames sc).contains p) = true) : initEnv sc ps ds = initI (varNames sc).length (idxsOf (varNames sc) ps) ds := by
  unfold initEnv initI
  apply List.ext_getElem?
  intro j
  rw [List.getElem?_map, List.getElem?_map]
  cases hx : (varNames sc)[j]? with
  | none => rw [List.getElem?_eq_none (by rw [List.length_range]; exact List.getElem?_eq_none_iff.mp hx)]; rfl
  | some x =>
    rw [List.getElem?_range (List.getElem?_eq_some_iff.mp hx).1]
    simp only [Option.map_some]
    rw [idx_lookup nd hx ps ds hp]
noncomputable def paramsOf (fd : FuncData) : List Str := fd.params.args.map (·.arg)
noncomputable def plainFn (fd : FuncData) : Bool := (match fd.body with | .stmts _ => true | _ => false) && fd.closure.isEmpty && fd.globals == mainGlobals && fd.builtins == builtinsNs && nodupB (varNames fd.scope) && nodupB (paramsOf fd) &&
  (paramsOf fd).all (fun p => (varNames fd.scope).contains p && (fd.scope.names.lookup p == some .local || fd.scope.names.lookup p == some .cell)) && fd.scope.kind == .function && !fd.scope.isCoroutine && !fd.scope.isGenerator
theorem fnI {G : Gd} (g : Gr G) {k : Nat} (a : Addr) (n : Nat) (is : List Nat) {f : AEnv → Res Fl} (h : SimSs G k (fnAt G.K a).scope (stmtsOf (fnAt G.K a)) f) (hbind : ∀ vs : List Value, vs.length = (paramsOf (fnAt G.K a)).length → bindArgs (fnAt G.K a) ⟨vs, []⟩ = pure ((paramsOf (fnAt G.K a)).zip vs))
    (hf : isFnAt G.K a = true := by kernel_rfl) (hc : W.codeIn G.K (fnAt G.K a).code (fnAt G.K a).qualname = true := by kernel_rfl) (hpl : plainFn (fnAt G.K a) = true := by kernel_rfl) (hn : (varNames (fnAt G.K a).scope).length = n := by kernel_rfl) (hi : idxsOf (varNames (fnAt G.K a).scope) (paramsOf (fnAt G.K a)) = is := by kernel_rfl) :
    FnOK G (k + 1) (.ref a) (runI n is f) := by
  obtain ⟨fo, h1, h2⟩ := fn_at g hf
  unfold plainFn at hpl
  simp only [Bool.and_eq_true, beq_iff_eq, Bool.not_eq_true'] at hpl
  obtain ⟨⟨⟨⟨⟨⟨⟨⟨⟨p1, p2⟩, p3⟩, p4⟩, p5⟩, p6⟩, p7⟩, p8⟩, p9⟩, p10⟩ := hpl
  have p7' : ∀ x ∈ paramsOf (fnAt G.K a), (varNames (fnAt G.K a).scope).contains x = true ∧ ((fnAt G.K a).scope.names.lookup x = some .local ∨ (fnAt G.K a).scope.names.lookup x = some .cell) := fun x hx => by
    have := List.all_eq_true.mp p7 x hx
    simpa using this
  have hb : (fnAt G.K a).body = .stmts (stmtsOf (fnAt G.K a)) := by
    unfold stmtsOf
    split at p1
    · rename_i b e; rw [e]
    · cases p1
  have := fn_ok g.ok (ps := paramsOf (fnAt G.K a)) h1 h2 (W.codeRec_of g.ok.K hc) hb (by simpa using p2) p3 p4 hbind (fun x hx => (p7' x hx).2) (nodupB_ok p6) (nodupB_ok p5) p8 p9 p10 h
  have e : runF (fnAt G.K a).scope (paramsOf (fnAt G.K a)) f = runI n is f := by
    funext ds
    unfold runF runI
    rw [initI_eq (nodupB_ok p5) (List.all_eq_true.mpr fun x hx => (p7' x hx).1), hn, hi]
    have hl : is.length = (paramsOf (fnAt G.K a)).length := by rw [← hi]; unfold idxsOf; simp
    rw [hl]
  rw [e] at this
  exact this
theorem len1 {P : List Value → Prop} {n : Nat} (H : ∀ a, P [a]) (hn : n = 1 := by kernel_rfl) (vs : List Value) (h : vs.length = n) : P vs := by
  subst hn
  obtain ⟨a, rfl⟩ := List.length_eq_one_iff.mp h
  exact H a
theorem len2 {P : List Value → Prop} {n : Nat} (H : ∀ a b, P [a, b]) (hn : n = 2 := by kernel_rfl) (vs : List Value) (h : vs.length = n) : P vs := by
  subst hn
  cases vs with
  | nil => cases h
  | cons a vs => exact len1 (P := fun vs => P (a :: vs)) (H a) rfl vs (Nat.succ.inj h)
theorem len3 {P : List Value → Prop} {n : Nat} (H : ∀ a b c, P [a, b, c]) (hn : n = 3 := by kernel_rfl) (vs : List Value) (h : vs.length = n) : P vs := by
  subst hn
  cases vs with
  | nil => cases h
  | cons a vs => exact len2 (P := fun vs => P (a :: vs)) (H a) rfl vs (Nat.succ.inj h)
theorem len4 {P : List Value → Prop} {n : Nat} (H : ∀ a b c d, P [a, b, c, d]) (hn : n = 4 := by kernel_rfl) (vs : List Value) (h : vs.length = n) : P vs := by
  subst hn
  cases vs with
  | nil => cases h
  | cons a vs => exact len3 (P := fun vs => P (a :: vs)) (H a) rfl vs (Nat.succ.inj h)
end Mine
end

section
set_option Elab.async false
set_option maxRecDepth 100000
namespace Mine
open PySem PyProof.Rows
section
variable {prog : Program} {w : World} {A : Around} {E : Value → Shared → Prop} {s : Shared}
end
end Mine
end

section
set_option Elab.async false
set_option maxRecDepth 100000
namespace Mine
open PySem PyProof.Rows
noncomputable def hasD (x y : D) : Option Bool := match y, x with
  | .str y, .str x => some !(Builtin.Str.occurrences y x 0 y.length 1).isEmpty
  | .list ds, x => (match toPys ds, toPy x with
    | some ps, some p => if SeqAt.shaped (.list ps) && SeqAt.shaped p then some (ps.any fun q => PyData.eqv q p) else none
    | _, _ => none)
  | .tup ds, x => (match toPys ds, toPy x with
    | some ps, some p => if SeqAt.shaped (.tuple ps) && SeqAt.shaped p then some (ps.any fun q => PyData.eqv q p) else none
    | _, _ => none)
  | _, _ => none
noncomputable def inI (x y : D) : Option T := (hasD x y).map fun b => .sh (.bool b)
theorem toPy_list {ds : List D} {ps : List PyData} (h : toPys ds = some ps) : toPy (.list ds) = some (.list ps) := congrArg (Option.map PyData.list) h
theorem toPy_tup {ds : List D} {ps : List PyData} (h : toPys ds = some ps) : toPy (.tup ds) = some (.tuple ps) := congrArg (Option.map PyData.tuple) h
theorem shaped_items {ps : List PyData} (h : SeqAt.shaped (.list ps) = true) : PyData.canLayAll0 ps = true ∧ PyData.depthAll ps ≤ 64 := by
  have h1 := SeqAt.canLay_of_shaped h
  have h2 := SeqAt.depth_of_shaped h
  rw [PyData.canLay0] at h1
  rw [PyData.depth] at h2
  exact ⟨h1, by omega⟩
theorem shaped_itemsT {ps : List PyData} (h : SeqAt.shaped (.tuple ps) = true) : PyData.canLayAll0 ps = true ∧ PyData.depthAll ps ≤ 64 := by
  have h1 := SeqAt.canLay_of_shaped h
  have h2 := SeqAt.depth_of_shaped h
  rw [PyData.canLay0] at h1
  rw [PyData.depth] at h2
  exact ⟨h1, by omega⟩
theorem hasD_in {G : Gd} {cx : Cx} {sc : Scope} (ok : CxOk G cx sc 0) {S : Addr → Prop} {s : Shared} {v w : Value} {x y : D} {b : Bool} (rx : RB S s.heap v x) (ry : RB S s.heap w y) (e : hasD x y = some b) {Q E : Value → Shared → Prop} : (Q (.bool b) s → wpAny G.M cx.A (compareOp .In v w) Q E s) ∧ (Q (.bool !b) s → wpAny G.M cx.A (compareOp .NotIn v w) Q E s) := by
  have room := ok.room.2
  unfold hasD at e
  split at e
  · cases e
    obtain ⟨_, rfl⟩ := rx.str; obtain ⟨_, rfl⟩ := ry.str
    exact ⟨PySem.P.in_str, PySem.P.notIn_str⟩
  · rename_i ds
    split at e
    · rename_i ps p hps hp
      split at e
      · rename_i hs
        cases e
        simp only [Bool.and_eq_true] at hs
        obtain ⟨bs, rp⟩ := RV.reads rx.any hp
        obtain ⟨as, rl⟩ := RV.reads ry.any (toPy_list hps)
        have h1 := shaped_items hs.1
        have hu : cx.A.units + 1 + min (PyData.depthAll ps) p.depth < cLine := by unfold cLine; have := Nat.min_le_left (PyData.depthAll ps) p.depth; omega
        exact ⟨SeqAt.in_list_reads rl rp h1.1 (SeqAt.canLay_of_shaped hs.2) hu, SeqAt.notIn_list_reads rl rp h1.1 (SeqAt.canLay_of_shaped hs.2) hu⟩
      · cases e
    · cases e
  · rename_i ds
    split at e
    · rename_i ps p hps hp
      split at e
      · rename_i hs
        cases e
        simp only [Bool.and_eq_true] at hs
        obtain ⟨bs, rp⟩ := RV.reads rx.any hp
        obtain ⟨as, rl⟩ := RV.reads ry.any (toPy_tup hps)
        have h1 := shaped_itemsT hs.1
        have hu : cx.A.units + 1 + min (PyData.depthAll ps) p.depth < cLine := by unfold cLine; have := Nat.min_le_left (PyData.depthAll ps) p.depth; omega
        exact ⟨SeqAt.in_tuple_reads rl rp h1.1 (SeqAt.canLay_of_shaped hs.2) hu, SeqAt.notIn_tuple_reads rl rp h1.1 (SeqAt.canLay_of_shaped hs.2) hu⟩
      · cases e
    · cases e
  · cases e
theorem op_in {G : Gd} : Op2 G (compareOp .In) inI := by
  intro cx sc ok ρ S s v w x y t rel rx ry e Q E out
  obtain ⟨b, hb, rfl⟩ := Option.map_eq_some_iff.mp e
  exact (hasD_in ok rx ry hb).1 (out_sh out rel (tk := s.toks) (.bool _))
end Mine
end

section
set_option Elab.async false
set_option maxRecDepth 100000
namespace Mine
open PySem PyProof.Rows
section
variable {prog : Program} {w : World} {A : Around} {E : Value → Shared → Prop} {s : Shared}
end
section
variable {G : Gd} {A : Around} {tg : Expr}
end
end Mine
end

section
set_option Elab.async false
set_option maxRecDepth 100000
namespace Mine
open PySem PyProof.Rows
end Mine
end

section
set_option Elab.async false
set_option maxRecDepth 100000
namespace Mine
open PySem PyProof.Rows PySem.Spec
section
variable {prog : Program} {w : World} {A : Around} {E : Value → Shared → Prop} {s : Shared}
end
end Mine
end

section
set_option Elab.async false
set_option maxRecDepth 100000
namespace Mine
open PySem
noncomputable def keyAt (k : List Int) : List (List Int) → Option Nat
  | [] => none
  | x :: r => if x = k then some 0 else (keyAt k r).map (· + 1)
theorem keyAt_none {k : List Int} : ∀ {ks : List (List Int)}, k ∉ ks → keyAt k ks = none
  | [], _ => rfl
  | x :: r, h => by
    rw [List.mem_cons, not_or] at h
    rw [keyAt, if_neg (Ne.symm h.1), keyAt_none h.2]; rfl
theorem keyAt_get {k : List Int} : ∀ {ks : List (List Int)} {j : Nat}, keyAt k ks = some j → ks[j]? = some k
  | x :: r, j, h => by
    rw [keyAt] at h
    split at h
    · rename_i e; cases h; rw [e]; rfl
    · obtain ⟨i, hi, rfl⟩ := Option.map_eq_some_iff.mp h
      rw [List.getElem?_cons_succ]; exact keyAt_get hi
theorem keyAt_some {k : List Int} : ∀ {ks : List (List Int)} {j : Nat}, ks.Nodup → ks[j]? = some k → keyAt k ks = some j
  | x :: r, 0, _, h => by cases h; rw [keyAt, if_pos rfl]
  | x :: r, j + 1, nd, h => by
    rw [List.getElem?_cons_succ] at h
    have hm := List.mem_of_getElem? h
    rw [keyAt, if_neg (by rintro rfl; exact (List.nodup_cons.mp nd).1 hm), keyAt_some (List.nodup_cons.mp nd).2 h]; rfl
theorem keyAt_eq_none {k : List Int} {ks : List (List Int)} (h : keyAt k ks = none) : k ∉ ks := fun hm => by
  induction ks with
  | nil => cases hm
  | cons x r ih =>
    rw [keyAt] at h
    split at h
    · cases h
    · rename_i hx
      rcases List.mem_cons.mp hm with e | hm
      · exact hx e.symm
      · exact ih (by cases q : keyAt k r with | none => rfl | some j => rw [q] at h; cases h) hm
noncomputable def asInts : List D → Option (List Int)
  | [] => some []
  | .int i :: ds => (asInts ds).map (i :: ·)
  | _ :: _ => none
noncomputable def asRow : D → Option (List Int)
  | .tup ds => asInts ds
  | _ => none
theorem asInts_eq : ∀ {ds : List D} {k : List Int}, asInts ds = some k → ds = k.map .int
  | [], k, h => by cases h; rfl
  | d :: ds, k, h => by
    cases d with
    | int i =>
      rw [asInts] at h
      obtain ⟨r, hr, rfl⟩ := Option.map_eq_some_iff.mp h
      rw [List.map_cons, ← asInts_eq hr]
    | _ => cases h
theorem asRow_eq {d : D} {k : List Int} (h : asRow d = some k) : d = rowD k := by
  cases d with
  | tup ds => exact congrArg D.tup (asInts_eq h)
  | _ => cases h
theorem asInts_map : ∀ k : List Int, asInts (k.map .int) = some k
  | [] => rfl
  | i :: k => by rw [List.map_cons, asInts, asInts_map k]; rfl
theorem asRow_row (k : List Int) : asRow (rowD k) = some k := asInts_map k
section
variable {prog : Program} {w : World} {S : Addr → Prop} {h : Heap}
theorem ints_items {k : List Int} : ∀ {vs : List Value}, RVs S h vs (k.map .int) → ItemsAre (intKind prog w) k vs := by
  induction k with
  | nil => intro vs q; cases q; exact .nil
  | cons i k ih =>
    intro vs q
    cases q with
    | cons q r =>
      cases q with
      | int i t => exact .cons (by show Value.isInt i (.int i t) = true; simp [Value.isInt]) (ih r)
theorem row_key {k : List Int} {a : Addr} (q : RV S h (.ref a) (rowD k)) : IsTupleKey (intKind prog w) h k a := by
  unfold rowD at q
  cases q with
  | tup e hc hd r => exact ⟨_, _, _, e, hc, hd, ints_items r⟩
end
section
variable {prog : Program} {w : World} {A : Around} {E : Value → Shared → Prop} {s : Shared} {S : Addr → Prop} {d a : Addr} {k : List Int} {ks : List (List Int)} {ds : List D}
theorem d_hash {Q : Int → Shared → Prop} (hu : A.units < cLine) (hk : RV S s.heap (.ref a) (rowD k)) (h : Q (rowHash k) { s with toks := s.toks + (k.length + 1) }) : wpAny (model prog w) A (pyHash (.ref a)) Q E s :=
  wpAny_pyHash_tuple (knd := intKind prog w) hu (row_key hk) h
theorem d_find {Q : Option Nat → Shared → Prop} (hu : A.units < cLine) (hk : RV S s.heap (.ref a) (rowD k)) (q : DictAt S s.heap d ks ds) (h : Q (keyAt k ks) s) : wpAny (model prog w) A (dictFind d (.ref a) (rowHash k)) Q E s := by
  obtain ⟨o, es, n, xs, e, hc, hd, he, hks, nd, hr, rv, hm⟩ := q
  refine wpAny_dictFind_heap (knd := tupleKind (intKind prog w)) (xs := xs) hu (row_key hk) e hd he (fun x hx => row_key (hr x hx)) (by rw [hks]; exact nd) (fun hno => ?_) (fun j p hj => ?_)
  · rw [keyAt_none] at h
    · exact h
    · intro hin
      rw [← hks] at hin
      obtain ⟨x, hx, rfl⟩ := List.mem_map.mp hin
      obtain ⟨j, hj⟩ := List.getElem?_of_mem hx
      exact hno j x.2 hj
  · rw [keyAt_some nd (j := j) (by rw [← hks, List.getElem?_map, hj]; rfl)] at h
    exact h
theorem DictAt.sys (q : DictAt S s.heap d ks ds) : (d == sysModules) = false := by
  obtain ⟨_, _, _, _, _, _, _, _, _, _, _, _, hm⟩ := q; exact hm
theorem DictAt.typeIs (q : DictAt S s.heap d ks ds) : s.TypeIs (.ref d) "dict" := by
  obtain ⟨o, _, _, _, e, hc, _⟩ := q; exact ⟨o, e, hc.1⟩
theorem DictAt.nodict (q : DictAt S s.heap d ks ds) : ∃ o, s.heap.get? d = some o ∧ o.dict = none := by
  obtain ⟨o, _, _, _, e, hc, _⟩ := q; exact ⟨o, e, hc.2⟩
theorem dict_mapDict (f : Array DictEntry → Array DictEntry) (o : Obj) : (Obj.mapDict f o).dict = o.dict := by
  obtain ⟨c, d, dt, sl⟩ := o
  cases dt <;> rfl
theorem dict_mapDictKeys (f : Array DictEntry → Array DictEntry) (o : Obj) : (Obj.mapDictKeys f o).dict = o.dict := by
  obtain ⟨c, d, dt, sl⟩ := o
  cases dt <;> rfl
theorem DictAt.val (q : DictAt S s.heap d ks ds) {j : Nat} (hj : keyAt k ks = some j) : ∃ o es n v b d', s.heap.get? d = some o ∧ o.data = .dict es n ∧ es[j]? = some ⟨rowHash k, .ref b, v⟩ ∧ ds[j]? = some d' ∧ RV S s.heap v d' := by
  obtain ⟨o, es, n, xs, e, hc, hd, he, hks, nd, hr, rv, hm⟩ := q
  have h1 := keyAt_get hj
  rw [← hks, List.getElem?_map] at h1
  obtain ⟨x, hx, rfl⟩ := Option.map_eq_some_iff.mp h1
  have hl : (xs.map (·.2.2))[j]? = some x.2.2 := by rw [List.getElem?_map, hx]; rfl
  have hlt : j < ds.length := by rw [← rv.length, List.length_map]; exact (List.getElem?_eq_some_iff.mp hx).1
  obtain ⟨v, hv, r⟩ := rv.get (k := j) (List.getElem?_eq_getElem hlt)
  rw [hl] at hv; cases hv
  exact ⟨o, es, n, x.2.2, x.2.1, _, e, hd, by rw [← Array.getElem?_toList, he, List.getElem?_map, hx]; rfl, List.getElem?_eq_getElem hlt, r⟩
theorem d_get {Q : Option Value → Shared → Prop} (hu : A.units < cLine) (hk : RV S s.heap (.ref a) (rowD k)) (q : DictAt S s.heap d ks ds)
    (hn : keyAt k ks = none → Q none { s with toks := s.toks + (k.length + 1) }) (hs : ∀ j v d', keyAt k ks = some j → ds[j]? = some d' → RV S s.heap v d' → Q (some v) { s with toks := s.toks + (k.length + 1) }) : wpAny (model prog w) A (dictGet d (.ref a)) Q E s := by
  unfold dictGet
  try with_reducible refine wpAny_holding ?_
  refine wpAny_bind (d_hash hu hk (wpAny_bind (d_find (s := { s with toks := s.toks + (k.length + 1) }) hu hk q ?_)))
  cases hj : keyAt k ks with
  | none => exact wpAny_pure (hn hj)
  | some j =>
    obtain ⟨o, es, n, v, b, d', e1, e2, e3, e4, e5⟩ := q.val hj
    refine wpAny_bind (wpAny_dictEntries (s := { s with toks := s.toks + (k.length + 1) }) e1 e2 ?_)
    rw [e3]
    exact wpAny_pure (hs j v d' hj e4 e5)
theorem d_in {Q : Value → Shared → Prop} (hu : A.units + 1 < cLine) (hk : RV S s.heap (.ref a) (rowD k)) (q : DictAt S s.heap d ks ds) (h : Q (.bool (keyAt k ks).isSome) { s with toks := s.toks + (k.length + 1) }) : wpAny (model prog w) A (compareOp .In (.ref a) (.ref d)) Q E s := by
  have hm := q.sys
  show wpAny _ _ (do return .bool (← contains (.ref d) (.ref a))) Q E s
  refine wpAny_bind ?_
  unfold contains
  try with_reducible refine wpAny_holding ?_
  refine wpAny_bind (wpAny_specialOf q.typeIs slot_dict_contains.lookup ?_)
  show wpAny _ _ (if (some (Value.builtin "dict.__contains__") == some Value.none) = true then _ else _) _ E s
  rw [if_neg (by rw [beq_builtin_none]; exact Bool.false_ne_true)]
  refine wpAny_bind (wpAny_callSpecialUnlessNone?_slot (name := Str.ofString "__contains__") q.typeIs slot_dict_contains
    (wpAny_call_entry slot_dict_contains q.typeIs entry_dict_contains ?_ (args_dict_contains _ _)))
  show wpAny _ _ (dictGet d (.ref a) >>= _) _ _ s
  refine wpAny_bind (d_get (A := A.in1) hu hk q (fun hj => ?_) fun j v d' hj _ _ => ?_)
  · rw [hj] at h
    show wpAny _ _ (Builtin.Dict.pendingKey? d (.ref a) >>= _) _ _ _
    exact wpAny_bind (wpAny_pendingKey_other hm (wpAny_pure ⟨_, rfl, wpAny_truthy_bool (wpAny_pure h)⟩))
  · rw [hj] at h
    show wpAny _ _ (ret (.bool true)) _ _ _
    exact wpAny_pure ⟨_, rfl, wpAny_truthy_bool (wpAny_pure h)⟩
theorem d_item {j : Nat} {Q : Value → Shared → Prop} (hu : A.units + 1 < cLine) (hk : RV S s.heap (.ref a) (rowD k)) (q : DictAt S s.heap d ks ds) (hj : keyAt k ks = some j) (h : ∀ v d', ds[j]? = some d' → RV S s.heap v d' → Q v { s with toks := s.toks + (k.length + 1) }) : wpAny (model prog w) A (getItem (.ref d) (.ref a)) Q E s := by
  unfold getItem
  try with_reducible refine wpAny_holding ?_
  refine wpAny_bind (wpAny_sequenceKey q.typeIs (by decide) ?_)
  refine wpAny_bind (wpAny_callSpecial?_slot (name := Str.ofString "__getitem__") q.typeIs slot_dict_getitem
    (wpAny_call_entry slot_dict_getitem q.typeIs entry_dict_getitem ?_ (args_dict_getitem _ _)))
  show wpAny _ _ (dictGet d (.ref a) >>= _) _ _ s
  refine wpAny_bind (d_get (A := A.in1) hu hk q (fun q => by rw [hj] at q; cases q) fun j' v d' hj' e1 e2 => ?_)
  rw [hj] at hj'; cases hj'
  exact wpAny_pure ⟨v, rfl, wpAny_pure (h v d' e1 e2)⟩
theorem map_modify {α β : Type} {f : α → β} {g : α → α} {g' : β → β} (hg : ∀ x, f (g x) = g' (f x)) (l : List α) (j : Nat) : (l.modify j g).map f = (l.map f).modify j g' := by
  apply List.ext_getElem?
  intro i
  rw [List.getElem?_map, List.getElem?_modify, List.getElem?_modify, List.getElem?_map]
  cases l[i]? with
  | none => rfl
  | some x => simp only [Option.map_eq_map, Option.map_some]; split <;> simp [hg]
theorem modify_set {α : Type} (l : List α) (j : Nat) (v : α) : l.modify j (fun _ => v) = l.set j v := by
  apply List.ext_getElem?
  intro i
  rw [List.getElem?_modify, List.getElem?_set]
  by_cases h : j = i
  · subst h
    by_cases hl : j < l.length
    · simp [hl]
    · simp [hl]
  · simp [h]
structure DStored (S : Addr → Prop) (h : Heap) (d : Addr) (ks' : List (List Int)) (vs' : List Value) (h' : Heap) : Prop where
  but : Heap.SameBut d h h'
  obj : ∃ o es n, h.get? d = some o ∧ o.data = .dict es n
  obj' : ∃ o' es' n', h'.get? d = some o' ∧ o'.data = .dict es' n'
  at_ : ∀ ds', Ext S h S h' → RVs S h vs' ds' → DictAt S h' d ks' ds'
theorem d_store {v : Value} (hk : RV S s.heap (.ref a) (rowD k)) (q : DictAt S s.heap d ks ds) {o : Obj} {es : Array DictEntry} {n : Nat} (e : s.heap.get? d = some o) (hd : o.data = .dict es n) :
    (keyAt k ks = none → ∃ vs, RVs S s.heap vs ds ∧ DStored S s.heap d (ks ++ [k]) (vs ++ [v]) (s.heap.update d (Obj.mapDictKeys (·.push ⟨rowHash k, .ref a, v⟩)))) ∧
    (∀ j, keyAt k ks = some j → ∃ vs, RVs S s.heap vs ds ∧ DStored S s.heap d ks (vs.set j v) (s.heap.update d (Obj.mapDict (·.modify j fun e => { e with val := v })))) := by
  obtain ⟨o', es', n', xs, e', hc, hd', he, hks, nd, hr, rv, hm⟩ := q
  rw [e] at e'; cases e'
  rw [hd] at hd'; cases hd'
  refine ⟨fun hj => ⟨_, rv, ?_⟩, fun j hj => ⟨_, rv, ?_⟩⟩
  · have e₁ : (s.heap.update d (Obj.mapDictKeys (·.push ⟨rowHash k, .ref a, v⟩))).get? d = _ := Heap.get?_update_self _ e (Obj.isFreed_of_dict (Obj.data_mapDictKeys hd _))
    refine ⟨Heap.SameBut.update .., ⟨o, es, n, e, hd⟩, ⟨_, _, _, e₁, Obj.data_mapDictKeys hd _⟩, fun ds' x rv' => ⟨_, _, _, xs ++ [(k, a, v)], e₁, ⟨(Obj.cls_mapDictKeys _ _).trans hc.1, (dict_mapDictKeys _ _).trans hc.2⟩, Obj.data_mapDictKeys hd _, ?_, ?_, ?_, ?_, ?_, hm⟩⟩
    · rw [Array.toList_push, he, List.map_append]; rfl
    · rw [List.map_append, hks]; rfl
    · rw [List.nodup_append]
      refine ⟨nd, by simp, ?_⟩
      rintro x hx y hy rfl
      rw [List.mem_singleton.mp hy] at hx
      exact keyAt_eq_none hj hx
    · intro y hy
      rcases List.mem_append.mp hy with hy | hy
      · exact (hr y hy).ext x
      · rw [List.mem_singleton.mp hy]; exact hk.ext x
    · rw [List.map_append]; exact rv'.ext x
  · have e₁ : (s.heap.update d (Obj.mapDict (·.modify j fun e => { e with val := v }))).get? d = _ := Heap.get?_update_self _ e (Obj.isFreed_of_dict (Obj.data_mapDict hd _))
    refine ⟨Heap.SameBut.update .., ⟨o, es, n, e, hd⟩, ⟨_, _, _, e₁, Obj.data_mapDict hd _⟩, fun ds' x rv' => ⟨_, _, _, xs.modify j (fun y => (y.1, y.2.1, v)), e₁, ⟨(Obj.cls_mapDict _ _).trans hc.1, (dict_mapDict _ _).trans hc.2⟩, Obj.data_mapDict hd _, ?_, ?_, nd, ?_, ?_, hm⟩⟩
    · rw [Array.toList_modify, he]
      exact (map_modify (f := dEnt) (fun _ => rfl) xs j).symm
    · rw [map_modify (f := fun y : List Int × Addr × Value => y.1) (g := fun y => (y.1, y.2.1, v)) (g' := id) (fun _ => rfl), hks]
      apply List.ext_getElem?
      intro i
      rw [List.getElem?_modify]
      cases ks[i]? <;> simp
    · intro y hy
      obtain ⟨i, hi⟩ := List.getElem?_of_mem hy
      rw [List.getElem?_modify] at hi
      cases hx : xs[i]? with
      | none => rw [hx] at hi; cases hi
      | some z =>
        rw [hx] at hi
        have := (hr z (List.mem_of_getElem? hx)).ext x
        simp only [Option.map_eq_map, Option.map_some, Option.some.injEq] at hi
        split at hi <;> (subst hi; exact this)
    · rw [map_modify (f := fun y : List Int × Addr × Value => y.2.2) (g := fun y => (y.1, y.2.1, v)) (g' := fun _ => v) (fun _ => rfl), modify_set]
      exact rv'.ext x
theorem d_setdefault {v : Value} {R : Result → Shared → Prop} (hu : A.units + 1 < cLine) (hk : RV S s.heap (.ref a) (rowD k)) (q : DictAt S s.heap d ks ds) (hz : ks.length ≤ 1000000)
    (hs : ∀ j u d', keyAt k ks = some j → ds[j]? = some d' → RV S s.heap u d' → R (.ok (.ret u)) { s with toks := s.toks + (k.length + 1) })
    (hn : keyAt k ks = none → ∀ h' vs, RVs S s.heap vs ds → DStored S s.heap d (ks ++ [k]) (vs ++ [v]) h' → R (.ok (.ret v)) { s with heap := h', toks := s.toks + (k.length + 1) }) :
    wpAny (model prog w) A.in1 (Builtin.«dict.setdefault» ⟨[.ref d, .ref a, v], []⟩) (fun fin s' => ∃ v, fin = Fin.done (.ret v) ∧ R (.ok (.ret v)) s') (fun e s' => R (.error e) s') s := by
  obtain ⟨o, es, n, xs, e, hc, hd, he, hks, nd, hr, rv, hm⟩ := id q
  unfold Builtin.«dict.setdefault»
  refine wpAny_bind ?_
  unfold Builtin.Dict.keyAndDefault
  refine wpAny_bind (wpAny_notOrdered_dict q.typeIs ?_)
  show wpAny _ _ (pure (d, Value.ref a, some v)) _ _ s
  refine wpAny_pure ?_
  show wpAny _ _ (if (d == sysModules) = true then _ else (dictSetDefault d (.ref a) v >>= _)) _ _ s
  rw [if_neg (by rw [hm]; exact Bool.false_ne_true)]
  refine wpAny_bind ?_
  unfold dictSetDefault
  try with_reducible refine wpAny_holding ?_
  refine wpAny_bind (d_hash (A := A.in1) hu hk (wpAny_bind (d_find (A := A.in1) (s := { s with toks := s.toks + (k.length + 1) }) hu hk q ?_)))
  obtain ⟨f1, f2⟩ := d_store (s := { s with toks := s.toks + (k.length + 1) }) (v := v) hk q e hd
  cases hj : keyAt k ks with
  | none =>
    obtain ⟨vs, r1, r2⟩ := f1 hj
    refine wpAny_bind (wpAny_rule (wpAny_bind (wpAny_updateDictKeys (hz := ?_) (s := { s with toks := s.toks + (k.length + 1) }) e hd (wpAny_pure (wpAny_pure ⟨_, rfl, hn hj _ vs r1 r2⟩)))))
    rw [← Array.length_toList, he, List.length_map, sizeLine_eq]
    have : xs.length = ks.length := by rw [← hks, List.length_map]
    omega
  | some j =>
    obtain ⟨o', es', n', u, b, d', e1, e2, e3, e4, e5⟩ := q.val hj
    refine wpAny_bind (wpAny_dictEntries (s := { s with toks := s.toks + (k.length + 1) }) e1 e2 ?_)
    rw [e3]
    exact wpAny_bind (wpAny_rule (wpAny_pure (wpAny_pure ⟨_, rfl, hs j u d' hj e4 e5⟩)))
end
end Mine
end

section
set_option Elab.async false
set_option maxRecDepth 100000
namespace Mine
open PySem PyProof.Rows
noncomputable def dictAt (ρ : AEnv) (i : Nat) : Option (List (List Int) × List D) := match ρ[i]? with
  | some (some (.ow _ (.dict ks ds))) => some (ks, ds)
  | _ => none
theorem dictAt_eq {ρ : AEnv} {i : Nat} {p : List (List Int) × List D} (h : dictAt ρ i = some p) : ∃ m, ρ[i]? = some (some (.ow m (.dict p.1 p.2))) := by
  unfold dictAt at h
  split at h
  · rename_i m ks ds e; cases h; exact ⟨m, e⟩
  · cases h
noncomputable def dictOwn (ρ : AEnv) (i : Nat) : Option (List (List Int) × List D) := match ρ[i]? with
  | some (some (.ow true (.dict ks ds))) => if ks.length ≤ 1000000 then some (ks, ds) else none
  | _ => none
theorem dictOwn_eq {ρ : AEnv} {i : Nat} {p : List (List Int) × List D} (h : dictOwn ρ i = some p) : ρ[i]? = some (some (.ow true (.dict p.1 p.2))) ∧ p.1.length ≤ 1000000 := by
  unfold dictOwn at h
  split at h
  · rename_i ks ds e
    split at h
    · rename_i hl; cases h; exact ⟨e, hl⟩
    · cases h
  · cases h
section
variable {G : Gd} {cx : Cx} {sc : Scope} {ρ : AEnv} {S : Addr → Prop} {h : Heap} {k : Nat}
theorem Rel.dict {i : Nat} {x : Str} {m : Bool} {ks : List (List Int)} {ds : List D} (r : Rel G cx sc ρ S h) (hx : (varNames sc)[i]? = some x) (e : ρ[i]? = some (some (.ow m (.dict ks ds)))) :
    ∃ a, Var cx.env h x (.ref a) ∧ DictAt S h a ks ds ∧ cx.env.locals ≠ a ∧ ¬ S a := by
  obtain ⟨v, hv, a, rfl, n1, ow, n2⟩ := r.vars i x _ hx e
  refine ⟨a, hv, ow, ?_, n1⟩
  rintro rfl
  exact r.dok i x m ks ds hx e hv
theorem RB.row {v : Value} {d : D} {kk : List Int} (q : RB S h v d) (e : asRow d = some kk) : ∃ a, v = .ref a ∧ RV S h (.ref a) (rowD kk) := by
  rw [asRow_eq e] at q
  have q := q.rv fun ds e => by cases e
  unfold rowD at q ⊢
  cases q with
  | tup e hc hd r => exact ⟨_, rfl, .tup e hc hd r⟩
theorem CxOk.units (ok : CxOk G cx sc k) : cx.A.units + 1 < cLine := by
  have := ok.room.2
  show cx.A.units + 1 < 9900
  omega
theorem does_inD {δ : Type} {s : Shared} {l : Expr} {x : Str} {p : Pos} {f : AEnv → Res Bv} {i : Nat} {n : Value → Value → Sem δ} {β : Type} {J : (Addr → Prop) → Heap → δ → β → Prop} {K : List Int → List (List Int) → List D → AEnv → Res β} (hl : SimB G k sc l f) (hx : (varNames sc)[i]? = some x) (hd : (x == ("__debug__" : Str)) = false) (hn : (x == ("__classdict__" : Str)) = false) (ok : CxOk G cx sc k) (rel : Rel G cx sc ρ S s.heap)
    (h : ∀ ρ' S' h' tk a d kk ks ds, Rel G cx sc ρ' S' h' → RV S' h' (.ref a) (rowD kk) → DictAt S' h' d ks ds → Does G cx sc true (n (.ref a) (.ref d)) S' { s with heap := h', toks := tk } J (K kk ks ds ρ')) :
    Does G cx sc true (do let a ← eval l cx.env; let b ← holding [a] (eval (.Name x p) cx.env); n a b) S s J ((f ρ).bind fun b ρ₁ => match b.get ρ₁, dictAt ρ₁ i with
      | some y, some q => (match asRow y with | some kk => K kk q.1 q.2 ρ₁ | none => .stuck)
      | _, _ => .stuck) := by
  refine Does.bind (hl cx ok ρ S s rel) fun b ρ₁ va h₁ t₁ S₁ _ rel₁ ja x₁ v₁ => ?_
  split
  · rename_i y q hy hq
    split
    · rename_i kk hk
      obtain ⟨m, e⟩ := dictAt_eq hq
      obtain ⟨a, rfl, rv⟩ := (BVal.rb ja rel₁ hy).row hk
      obtain ⟨d, hv, da, _, _⟩ := rel₁.dict hx e
      intro Q E out
      refine wpAny_bind (wpAny_holding (wpAny_Name (sim_load (ok.mono (Nat.zero_le _)) hv hn rfl ?_) hd))
      exact h ρ₁ S₁ h₁ t₁ a d kk q.1 q.2 rel₁ rv da Q E out
    · exact Does.stuck
  · exact Does.stuck
theorem does_ofD {δ : Type} {s : Shared} {l : Expr} {x : Str} {p : Pos} {f : AEnv → Res Bv} {i : Nat} {n : Value → Value → Sem δ} {β : Type} {J : (Addr → Prop) → Heap → δ → β → Prop} {K : List Int → List (List Int) → List D → AEnv → Res β} (hl : SimB G k sc l f) (hx : (varNames sc)[i]? = some x) (hd : (x == ("__debug__" : Str)) = false) (hn : (x == ("__classdict__" : Str)) = false) (ok : CxOk G cx sc k) (rel : Rel G cx sc ρ S s.heap)
    (h : ∀ ρ' S' h' tk a d kk ks ds, Rel G cx sc ρ' S' h' → RV S' h' (.ref a) (rowD kk) → DictAt S' h' d ks ds → Does G cx sc true (n (.ref d) (.ref a)) S' { s with heap := h', toks := tk } J (K kk ks ds ρ')) :
    Does G cx sc true (do let b ← eval (.Name x p) cx.env; let a ← holding [b] (eval l cx.env); n b a) S s J (match dictAt ρ i with
      | none => .stuck
      | some _ => (f ρ).bind fun b ρ₁ => match b.get ρ₁, dictAt ρ₁ i with
        | some y, some q => (match asRow y with | some kk => K kk q.1 q.2 ρ₁ | none => .stuck)
        | _, _ => .stuck) := by
  split
  · exact Does.stuck
  · rename_i q₀ hq₀
    obtain ⟨m₀, e₀⟩ := dictAt_eq hq₀
    obtain ⟨d₀, hv₀, _, _, _⟩ := rel.dict hx e₀
    intro Q E out
    refine wpAny_bind (wpAny_Name (sim_load (ok.mono (Nat.zero_le _)) hv₀ hn rfl ?_) hd)
    refine (Does.bind (J' := J) (k := fun a => n (.ref d₀) a) (Does.holding (hl cx ok ρ S s rel)) fun b ρ₁ va h₁ t₁ S₁ _ rel₁ ja x₁ v₁ => ?_) Q E out
    split
    · rename_i y q hy hq
      split
      · rename_i kk hk
        obtain ⟨m, e⟩ := dictAt_eq hq
        obtain ⟨a, rfl, rv⟩ := (BVal.rb ja rel₁ hy).row hk
        obtain ⟨d, hv, da, _, _⟩ := rel₁.dict hx e
        cases Var.inj hv (v₁ rfl x _ hv₀)
        exact h ρ₁ S₁ h₁ t₁ a _ kk q.1 q.2 rel₁ rv da
      · exact Does.stuck
    · exact Does.stuck
noncomputable def tInD (neg : Bool) (f : AEnv → Res Bv) (i : Nat) : AEnv → Res Bool := fun ρ => (f ρ).bind fun b ρ₁ => match b.get ρ₁, dictAt ρ₁ i with
  | some y, some q => (match asRow y with | some kk => .ok ((keyAt kk q.1).isSome != neg) ρ₁ | none => .stuck)
  | _, _ => .stuck
noncomputable def eGetD (i : Nat) (f : AEnv → Res Bv) : AEnv → Res T := fun ρ => match dictAt ρ i with
  | none => .stuck
  | some _ => (f ρ).bind fun b ρ₁ => match b.get ρ₁, dictAt ρ₁ i with
    | some y, some q => (match asRow y with
      | some kk => (match keyAt kk q.1 with
        | some j => (match q.2[j]? with | some d => .ok (.sh d) ρ₁ | none => .stuck)
        | none => .stuck)
      | none => .stuck)
    | _, _ => .stuck
theorem does_inV {s : Shared} {a d : Addr} {kk : List Int} {ks : List (List Int)} {ds : List D} (ok : CxOk G cx sc k) (rel : Rel G cx sc ρ S s.heap) (rv : RV S s.heap (.ref a) (rowD kk)) (da : DictAt S s.heap d ks ds) :
    Does G cx sc true (compareOp .In (.ref a) (.ref d)) S s (fun S' h' v t => TTmp cx S' h' v t) (.ok (.sh (.bool ((keyAt kk ks).isSome != false))) ρ) := fun Q E out => by
  refine d_in ok.units rv da ?_
  have := out (.bool ((keyAt kk ks).isSome != false)) s.heap (s.toks + (kk.length + 1)) S rel (.bool _) (Ext.refl ..) fun _ => VarSame.refl _ _
  rw [Bool.bne_false] at this; exact this
end
section
variable {G : Gd} {k : Nat} {sc : Scope}
theorem simT_inD {l : Expr} {x : Str} {p pos : Pos} {f : AEnv → Res Bv} {i : Nat} (hl : SimB G k sc l f) (hx : (varNames sc)[i]? = some x := by kernel_rfl) (hd : (x == ("__debug__" : Str)) = false := by kernel_rfl) (hn : (x == ("__classdict__" : Str)) = false := by kernel_rfl) (hm : behindInMarks .In (.Name x p) = false := by kernel_rfl) : SimT G k sc (.Compare l [.In] [.Name x p] pos) (tInD false f i) := by
  intro cx ok ρ S s rel
  rw [isTrue_Compare1, markedBehindIn_of_false hm]
  exact does_inD (K := fun kk ks _ ρ₁ => .ok ((keyAt kk ks).isSome != false) ρ₁) hl hx hd hn ok rel fun ρ' S' h' tk a d kk ks ds r rv da => Does.standAt (does_truth (vs := fun c => [c]) (Does.operate (vs := [.ref a, .ref d]) (does_inV (s := { s with heap := h', toks := tk }) ok r rv da)))
theorem sim_getD {l : Expr} {x : Str} {p pos : Pos} {f : AEnv → Res Bv} {i : Nat} (hl : SimB G k sc l f) (hx : (varNames sc)[i]? = some x := by kernel_rfl) (hd : (x == ("__debug__" : Str)) = false := by kernel_rfl) (hn : (x == ("__classdict__" : Str)) = false := by kernel_rfl) (hs : ∀ o i, subscripted l false o i = operate [o, i] (getItem o i) := by intro _ _; rfl) :
    Sim G k sc (.Subscript (.Name x p) l pos) (eGetD i f) := by
  intro cx ok ρ S s rel
  show Does G cx sc true (do let a ← eval (.Name x p) cx.env; let b ← holding [a] (eval l cx.env); standAt pos; subscriptTail (.Name x p) l a b) S s _ _
  refine does_ofD (K := fun kk ks ds ρ₁ => match keyAt kk ks with | some j => (match ds[j]? with | some d => Res.ok (T.sh d) ρ₁ | none => .stuck) | none => .stuck) hl hx hd hn ok rel fun ρ' S' h' tk a d kk ks ds r rv da => ?_
  refine Does.standAt ?_
  intro Q E out
  split at out
  · rename_i j hj
    refine tail_any (s := { s with heap := h', toks := tk }) da.typeIs slot_dict_getitem.lookup ?_ (hs _ _)
    refine d_item (s := { s with heap := h', toks := tk }) ok.units rv da hj fun v d' e1 e2 => ?_
    rw [e1] at out
    exact out v h' _ S' r e2 (Ext.refl ..) fun _ => VarSame.refl _ _
  · exact out.elim
theorem notImm_dict {o : Obj} {es : Array DictEntry} {n : Nat} (h : o.data = .dict es n) : ¬ Imm o := by
  rintro (⟨_, vs, m, q⟩ | ⟨vs, q⟩) <;> (rw [h] at q; cases q)
theorem Rel.stored {cx : Cx} {ρ : AEnv} {S : Addr → Prop} {h h' : Heap} {i : Nat} {x : Str} {ks ks' : List (List Int)} {ds ds' : List D} {a : Addr} {vs : List Value} (r : Rel G cx sc ρ S h) (bh : G.B.StaysIn cx.h₀) (hx : (varNames sc)[i]? = some x) (e : ρ[i]? = some (some (.ow true (.dict ks ds)))) (hv : Var cx.env h x (.ref a)) (q : DStored S h a ks' vs h') (rv : RVs S h vs ds') :
    Rel G cx sc (ρ.set i (some (.ow true (.dict ks' ds')))) S h' ∧ Ext S h S h' ∧ VarSame cx.env h h' := by
  obtain ⟨but, ⟨o, es, n, e1, e2⟩, ⟨o', es', n', e3, e4⟩, at_⟩ := q
  obtain ⟨a', hv', _, hl, _⟩ := r.dict hx e
  cases Var.inj hv hv'
  exact r.turn bh hx e hv e1 (notImm_dict e2) (by rw [e2]; intro v q; cases q) hl but e3 (fun _ => ⟨es', n', e4⟩) (fun _ => ⟨ks, ds, rfl⟩) fun x' => at_ ds' x' rv
noncomputable def sNewD (i : Nat) : AEnv → Res Fl := fun ρ => .ok .next (ρ.set i (some (.ow true (.dict [] []))))
theorem simS_newD (hG : G.Ok) {x : Str} {p ep pos : Pos} {i : Nat} (hx : (varNames sc)[i]? = some x := by kernel_rfl) (hk : sc.names.lookup x = some .local ∨ sc.names.lookup x = some .cell := by first | exact .inl (by kernel_rfl) | exact .inr (by kernel_rfl))
    (hcl : isDirty x = false := by kernel_rfl) (hs : ∀ env : Env, env.scope = sc → swapsWith (.Dict [] [] ep) (some (.Name x p)) pos.line env = pure false := by intro _ _; rfl) : SimS G k sc (.Assign [.Name x p] (.Dict [] [] ep) pos) (sNewD i) := by
  intro cx ok fn ρ S s r Q E out
  rw [exec_Assign_Name _ _ _ _ _ (hs cx.env ok.hsc)]
  refine wpAny_bind (wpAny_standAt (wpAny_bind ?_))
  rw [eval_Dict_empty]
  refine wpAny_bind (wpAny_standAt ?_)
  unfold newDict
  refine wpAny_newObj_type ?_ (by unfold sizeOk; simp)
  have hn : s.heap.get? s.heap.objs.size = none := Heap.get?_none_of_le (Nat.le_refl _)
  have he : (s.heap.push { cls := .type "dict", data := .dict #[] }).get? s.heap.objs.size = some { cls := .type "dict", data := .dict #[] } := Heap.get?_push_size _ rfl
  have kp : ∀ b o, s.heap.get? b = some o → (s.heap.push { cls := .type "dict", data := .dict #[] }).get? b = some o := fun b o e => Heap.get?_push_of_some _ e
  have r₁ := r.keeps kp
  have hsz : 3 < s.heap.objs.size := by
    obtain ⟨o, es, ep, e, _⟩ := hG.g
    exact Heap.lt_size (r.base _ _ e)
  refine wpAny_bind (wpAny_standAt ?_)
  refine wpAny_bind (does_bindName (s := { s with heap := s.heap.push { cls := .type "dict", data := .dict #[] } }) (t := .ow true (.dict [] [])) (ok.mono (Nat.zero_le _)) fn r₁ hx hk (.inl hcl) ⟨_, rfl, ?_, ?_, r.keep.none hn, fun y hdy q => ?_, fun _ => ?_⟩ _ _ ?_)
  · intro q; obtain ⟨o, e⟩ := r.sdom _ q; rw [hn] at e; cases e
  · have hne : s.heap.objs.size ≠ sysModules := by unfold sysModules; omega
    exact ⟨_, _, _, [], he, ⟨rfl, rfl⟩, rfl, rfl, rfl, .nil, (fun x hx => by cases hx), .nil, by simpa using hne⟩
  · obtain ⟨o, e⟩ := r.live y _ hdy (Var.of_kp (.of_keeps kp) r.ns r.cells q)
    rw [hn] at e; cases e
  · rintro q
    obtain ⟨m, o, _, _, e, _⟩ := r.ns
    rw [← q, hn] at e; cases e
  · intro _ h₂ t₂ S₂ r₂ _ x₂ v₂
    exact wpAny_pure (out .next h₂ t₂ S₂ r₂ trivial ((Ext.of_keeps kp).trans x₂) fun z => by cases z)
noncomputable def eSetDef (i : Nat) (f g : AEnv → Res Bv) : AEnv → Res T := fun ρ => match dictOwn ρ i with
  | none => .stuck
  | some _ => (f ρ).bind fun b ρ₁ => (g ρ₁).bind fun c ρ₂ => match b.get ρ₂, c.get ρ₂, isShared ρ₂ c, dictOwn ρ₂ i with
    | some y, some z, true, some q => (match asRow y with
      | some kk => (match keyAt kk q.1 with
        | some j => (match q.2[j]? with | some d => .ok (.sh d) ρ₂ | none => .stuck)
        | none => .ok (.sh z) (ρ₂.set i (some (.ow true (.dict (q.1 ++ [kk]) (q.2 ++ [z]))))))
      | none => .stuck)
    | _, _, _, _ => .stuck
theorem BVal.rvS {cx : Cx} {ρ : AEnv} {S : Addr → Prop} {h : Heap} {v : Value} {b : Bv} {d : D} (q : BVal cx sc S h v b) (r : Rel G cx sc ρ S h) (hs : isShared ρ b = true) (e : b.get ρ = some d) : RV S h v d := by
  cases b with
  | val d' => cases e; exact q
  | var i =>
    obtain ⟨y, hy, hv⟩ := q
    simp only [isShared] at hs
    simp only [Bv.get] at e
    split at hs
    · rename_i d' ht
      rw [ht] at e
      cases e
      obtain ⟨w, hw, tv⟩ := r.vars i y _ hy ht
      rw [Var.inj hv hw]; exact tv
    · cases hs
theorem sim_setdefault {x : Str} {p apos pos : Pos} {e1 e2 : Expr} {i : Nat} {f g : AEnv → Res Bv} (h1 : SimB G k sc e1 f) (h2 : SimB G k sc e2 g) (hx : (varNames sc)[i]? = some x := by kernel_rfl) (hd : (x == ("__debug__" : Str)) = false := by kernel_rfl) (hn : (x == ("__classdict__" : Str)) = false := by kernel_rfl)
    (hu : ∀ env, backTo pos (starEach [e1, e2] env) = [(false, eval e1 env), (false, eval e2 env)] := by intro _; rfl) (hline : (apos.endLine == pos.line) = true := by kernel_rfl) : SimM G k sc (.Call (.Attribute (.Name x p) "setdefault" apos) [e1, e2] [] pos) (eSetDef i f g) := by
  intro cx ok fn ρ S s r Q E out
  unfold eSetDef at out
  split at out
  · exact out.elim
  · rename_i q₀ h0
    obtain ⟨t0, l0⟩ := dictOwn_eq h0
    obtain ⟨a, hv, da, _, _⟩ := r.dict hx t0
    refine wpAny_Call_method rfl (by rw [hu]; rfl) hline F.plainAttrs_dict F.slot_dict_setdefault F.type_dict_setdefault ?_
    refine wpAny_Name (sim_load (ok.mono (Nat.zero_le _)) hv hn rfl ?_) hd
    refine ⟨da.typeIs, fun b eb => ?_, ?_⟩
    · cases eb; exact da.nodict
    rw [hu]
    refine method2_meetsIn F.slot_dict_setdefault F.entry_dict_setdefault ?_
    refine h1 cx ok ρ S s r _ _ ?_
    cases hf : f ρ with
    | stuck => rw [hf] at out; exact out.elim
    | exc C ρ₁ => rw [hf] at out; exact out
    | ok b ρ₁ =>
      rw [hf] at out
      simp only [Res.bind] at out
      intro v₁ h₁ t₁ S₁ r₁ j₁ x₁ w₁
      refine h2 cx ok ρ₁ S₁ { s with heap := h₁, toks := t₁ } r₁ _ _ ?_
      cases hg : g ρ₁ with
      | stuck => rw [hg] at out; exact out.elim
      | exc C ρ₂ => rw [hg] at out; intro e h₂ t₂ S₂ r₂ f₂ x₂; exact out e h₂ t₂ S₂ r₂ (f₂.back x₁) (x₁.trans x₂)
      | ok c ρ₂ =>
        rw [hg] at out
        simp only at out
        intro v₂ h₂ t₂ S₂ r₂ j₂ x₂ w₂
        split at out
        · rename_i y z q hy hz hs h3
          split at out
          · rename_i kk hk
            obtain ⟨ak, rfl, rvk⟩ := (BVal.rb (BVal.ext j₁ x₂ (w₂ rfl)) r₂ hy).row hk
            have rz := BVal.rvS j₂ r₂ hs hz
            obtain ⟨e3, l3⟩ := dictOwn_eq h3
            obtain ⟨a', hv', da', _, _⟩ := r₂.dict hx e3
            cases Var.inj hv' (w₂ rfl x _ (w₁ rfl x _ hv))
            refine ⟨da'.typeIs, F.args_dict_setdefault_3 _ _ _, _, .of_wp (S := fun A R s => ∃ S kk ks ds, A.units + 1 < cLine ∧ RV S s.heap (.ref ak) (rowD kk) ∧ DictAt S s.heap a ks ds ∧ ks.length ≤ 1000000 ∧
              (∀ j u d', keyAt kk ks = some j → ds[j]? = some d' → RV S s.heap u d' → R (.ok (.ret u)) { s with toks := s.toks + (kk.length + 1) }) ∧
              (keyAt kk ks = none → ∀ h' vs, RVs S s.heap vs ds → DStored S s.heap a (ks ++ [kk]) (vs ++ [v₂]) h' → R (.ok (.ret v₂)) { s with heap := h', toks := s.toks + (kk.length + 1) })) (fun A R s hh => by obtain ⟨S, kk, ks, ds, z1, z2, z3, z4, z5, z6⟩ := hh; exact d_setdefault z1 z2 z3 z4 z5 z6), S₂, kk, q.1, q.2, ok.units, rvk, da', l3, fun j u d' hj hd' ru => ?_, fun hj h' vs rvs st => ?_⟩
            · rw [hj] at out
              simp only [hd'] at out
              exact out u h₂ _ S₂ r₂ ru (x₁.trans x₂) fun z => (w₁ z).trans (w₂ z)
            · rw [hj] at out
              obtain ⟨r₃, x₃, v₃⟩ := r₂.stored fn.bh hx e3 hv' st (RVs.append (.cons rz .nil) rvs)
              exact out v₂ h' _ S₂ r₃ (rz.ext x₃) ((x₁.trans x₂).trans x₃) fun z => ((w₁ z).trans (w₂ z)).trans v₃
          · exact out.elim
        · exact out.elim
end
end Mine
end

section
set_option Elab.async false
set_option maxRecDepth 100000
namespace Mine
open PySem PyProof.Rows
theorem lookIn_ns {h : Heap} {dx : Addr} {o : Obj} {m : Str → Option Value} (hn : h.Ns dx m) (e : h.get? dx = some o) (n : Str) : W.lookIn n o = some (m n) := by
  obtain ⟨o', es, ep, e', hd, sk, hf⟩ := hn
  rw [e] at e'; cases e'
  unfold W.lookIn
  rw [hd]
  have hf := hf n
  unfold nsFind findBy at hf
  rw [← Array.find?_toList] at hf
  dsimp only
  cases q : es.toList.find? (fun e => e.key.isStr n) with
  | some en => rw [q] at hf; exact congrArg some hf
  | none =>
    rw [q] at hf
    dsimp only
    rw [if_neg]
    · exact congrArg some hf
    · intro hr
      obtain ⟨en, hm, hk⟩ := List.any_eq_true.mp hr
      obtain ⟨n', t, hk'⟩ := sk en (Array.mem_toList_iff.mp hm)
      unfold DictEntry.refKey at hk
      rw [hk'] at hk
      cases hk
noncomputable def attrOf (n : Str) : List Str → List D → Option D
  | x :: xs, d :: ds => if x = n then some d else attrOf n xs ds
  | _, _ => none
noncomputable def notGlob : D → Bool
  | .glob _ => false
  | _ => true
theorem attr_get {S : Addr → Prop} {h : Heap} {m : Str → Option Value} {n : Str} {d : D} : ∀ {ns : List Str} {vs : List Value} {ds : List D}, ns.map m = vs.map some → RVs S h vs ds → attrOf n ns ds = some d → ∃ v, m n = some v ∧ RV S h v d := by
  intro ns
  induction ns with
  | nil => intro vs ds _ _ e; cases e
  | cons x xs ih =>
    intro vs ds hm rv e
    cases rv with
    | nil => cases e
    | cons q r =>
      simp only [List.map_cons, List.cons.injEq] at hm
      rw [attrOf] at e
      split at e
      · rename_i hx; cases e; subst hx; exact ⟨_, hm.1, q⟩
      · exact ih hm.2 r e
theorem RV.inst {S : Addr → Prop} {h : Heap} {v : Value} {C : Addr} {ns : List Str} {ds : List D} (q : RV S h v (.obj C ns ds)) : ∃ a dx od m vs, v = .ref a ∧ h.get? dx = some od ∧ h.Ns dx m ∧ (ns.map m = vs.map some ∧ ∀ y, y ∉ ns → m y = Option.none) ∧ RVs S h vs ds ∧ W.InstAt h a (W.instObj C dx) C (some od) := by
  cases q with
  | obj s1 s2 e n hm r =>
    obtain ⟨o, es, ep, ho, hd, rest⟩ := n
    exact ⟨_, _, o, _, _, rfl, ho, ⟨o, es, ep, ho, hd, rest⟩, hm, r, e, rfl, rfl, ho⟩
theorem RV.handed {S : Addr → Prop} {h : Heap} {v : Value} {d : D} (q : RV S h v d) (hg : notGlob d = true) : W.handedIn v = true := by
  cases q <;> first | rfl | cases hg
theorem findObj_own {K : W.Frag} {C : Addr} {o : Obj} {n : Str} {v : Value} (hc : (W.clsIn K C).any (·.hasDict) = true) (hf : W.findIn K (.ref C) n = some none) (hl : W.lookIn n o = some (some v)) : W.findObj K C (some o) n = some (.value v) := by
  obtain ⟨cd, hcd, hd⟩ := W.any_some hc
  unfold W.findObj W.ownOf
  rw [hcd, hf]
  simp [hd, hl]
section
variable {G : Gd} {k : Nat} {sc : Scope}
noncomputable def eAttr (C : Addr) (n : Str) (i : Nat) : AEnv → Res T := fun ρ => match ρ[i]? with
  | some (some (.sh (.obj C' ns ds))) => if C' = C then (match attrOf n ns ds with
    | some d => if notGlob d then .ok (.sh d) ρ else .stuck
    | none => .stuck) else .stuck
  | _ => .stuck
theorem sim_attr (hG : G.Ok) {C : Addr} {n x : Str} {p pos : Pos} {i : Nat} (hx : (varNames sc)[i]? = some x := by kernel_rfl) (hd : (x == ("__debug__" : Str)) = false := by kernel_rfl) (hn : (x == ("__classdict__" : Str)) = false := by kernel_rfl)
    (hga : W.findIn G.K (.ref C) "__getattribute__" = some (some (.builtin "object.__getattribute__")) := by kernel_rfl) (hc : (W.clsIn G.K C).any (·.hasDict) = true := by kernel_rfl) (hf : W.findIn G.K (.ref C) n = some none := by kernel_rfl) :
    Sim G k sc (.Attribute (.Name x p) n pos) (eAttr C n i) := by
  intro cx ok ρ S s r Q E out
  unfold eAttr at out
  split at out
  · rename_i C' ns ds ht
    split at out
    · rename_i hC
      subst hC
      split at out
      · rename_i d hd'
        split at out
        · rename_i hg
          obtain ⟨v, hv, tv⟩ := r.vars i x _ hx ht
          obtain ⟨a, dx, od, m, vs, rfl, e2, e3, e4, rv, I⟩ := RV.inst tv
          obtain ⟨u, hu, ru⟩ := attr_get e4.1 rv hd'
          rw [arm_eval_Attribute]
          show wpAny _ _ (eval (.Name x p) cx.env >>= _) _ _ _
          refine wpAny_bind (wpAny_Name (sim_load (ok.mono (Nat.zero_le _)) hv hn rfl ?_) hd)
          refine wpAny_bind (wpAny_standAt (wpAny_bind (wpAny_holding (W.get_value (hG.K.keeps r.base) I hga (findObj_own hc hf (by rw [lookIn_ns e3 e2, hu])) (ru.handed hg) ?_))))
          exact wpAny_bind (wpAny_pure (wpAny_pure (out u s.heap _ S r ru (Ext.refl ..) fun _ => VarSame.refl _ _)))
        · exact out.elim
      · exact out.elim
    · exact out.elim
  · exact out.elim
noncomputable def eMtd (C : Addr) (n : Str) (i : Nat) (F : List D → FOut) (fa : AEnv → Res (List Bv)) : AEnv → Res T := fun ρ => match ρ[i]? with
  | some (some (.sh (.obj C' ns _))) => if C' = C ∧ n ∉ ns then (fa ρ).bind fun bs ρ₁ => (match getAll ρ₁ (.var i :: bs) with
    | some ds => callEnd (.var i :: bs) ρ₁ (F ds)
    | none => .stuck) else .stuck
  | _ => .stuck
theorem sim_mtd (hG : G.Ok) {C f : Addr} {n x : Str} {p apos pos : Pos} {i k' : Nat} {fo : Obj} {fd : FuncData} {F : List D → FOut} {args : List Expr} {fa : AEnv → Res (List Bv)} (hF : FnOK G k' (.ref f) F) (hk : k' ≤ k) (hfo : G.B.get? f = some fo) (hfd : fo.data = .func fd) (ha : SimBs G k sc args fa) (hu : args.all unstarred = true)
    (hx : (varNames sc)[i]? = some x) (hd : (x == ("__debug__" : Str)) = false) (hn : (x == ("__classdict__" : Str)) = false)
    (hfew : ∀ env, ((backTo pos (starEach args env)).all (fun x => !x.1) && (backToKw pos (keywordEach [] env)).all (fun x => x.1.isSome) && decide (args.length + ([] : List Keyword).length + (if ([] : List Keyword).isEmpty then 0 else 1) < 30)) = true) (hline : (apos.endLine == pos.line) = true)
    (hga : W.findIn G.K (.ref C) "__getattribute__" = some (some (.builtin "object.__getattribute__"))) (hgt : W.findIn G.K (.ref C) "__getattr__" = some none) (hf : W.findIn G.K (.ref C) n = some (some (.ref f))) (hty : W.typeIn G.K (.ref f) = some (.type "function")) :
    Sim G k sc (.Call (.Attribute (.Name x p) n apos) args [] pos) (eMtd C n i F fa) := by
  intro cx ok ρ S s r Q E out
  unfold eMtd at out
  split at out
  · rename_i C' ns ds ht
    split at out
    · rename_i hC
      obtain ⟨rfl, hns⟩ := hC
      obtain ⟨v, hv, tv⟩ := r.vars i x _ hx ht
      obtain ⟨a, dx, od, m, vs, rfl, e2, e3, e4, rv, I⟩ := RV.inst tv
      rw [arm_eval_Call]
      show wpAny _ _ (eval (.Name x p) cx.env >>= _) _ _ _
      refine wpAny_bind (wpAny_Name (sim_load (ok.mono (Nat.zero_le _)) hv hn rfl ?_) hd)
      refine wpAny_bind (wpAny_standAt ?_)
      have hform : methodCallForm (args.length + ([] : List Keyword).length) (backTo pos (starEach args cx.env)) (backToKw pos (keywordEach [] cx.env)) = true := hfew cx.env
      have hpos : methodCallPos true (.Name x p) cx.env apos pos = pure pos := by unfold methodCallPos; simp [hline]
      unfold methodCall
      rw [hform]
      refine wpAny_bind (wpAny_holding (W.method_fn (hG.K.keeps r.base) I hga hgt hf hty (by show Option.map _ (W.lookIn n od) = _; rw [lookIn_ns e3 e2, e4.2 n hns]; rfl) ?_))
      refine wpAny_bind (wpAny_of_eq hpos ?_)
      refine Calls.callWith_function (o := fo) (fd := fd) (evalArgs_any hu ?_)
      refine ha pos cx ok ρ S s r _ _ ?_
      cases hfa : fa ρ with
      | stuck => rw [hfa] at out; exact out.elim
      | exc C ρ' => rw [hfa] at out; exact out
      | ok bs ρ' =>
        rw [hfa] at out
        simp only [Res.bind] at out
        intro ws h₂ t₂ S₂ r₂ j₂ x₂ v₂
        refine ⟨⟨r₂.base _ _ hfo, hfd⟩, ?_⟩
        split at out
        · rename_i es hes
          refine does_callV (s := { s with heap := h₂, toks := t₂ }) hF ok hk r₂ (.cons (b := .var i) ⟨x, hx, v₂ rfl x _ hv⟩ j₂) hes Q E ?_
          cases hc : callEnd (.var i :: bs) ρ' (F es) with
          | stuck => rw [hc] at out; exact out
          | exc C ρ'' => rw [hc] at out; intro e h₃ t₃ S₃ r₃ f₃ x₃; exact out e h₃ t₃ S₃ r₃ (f₃.back x₂) (x₂.trans x₃)
          | ok t ρ'' => rw [hc] at out; intro w h₃ t₃ S₃ r₃ j₃ x₃ v₃; exact out w h₃ t₃ S₃ r₃ j₃ (x₂.trans x₃) fun q => (v₂ q).trans (v₃ q)
        · exact out.elim
    · exact out.elim
  · exact out.elim
end
end Mine
end

section
set_option Elab.async false
set_option maxRecDepth 100000
namespace Mine
open PySem PyProof.Rows
inductive IOut where
  | ok (ds : List D)
  | exc (C : Addr)
  | stuck
noncomputable def isSh : Option T → Bool
  | some (.ow _ _) => false
  | _ => true
noncomputable def allSh (ρ : AEnv) : Bool := ρ.all isSh
theorem allSh_no {ρ : AEnv} (h : allSh ρ = true) {i : Nat} {m : Bool} {d : D} (e : ρ[i]? = some (some (.ow m d))) : False := by
  have := List.all_eq_true.mp h _ (List.mem_of_getElem? e)
  cases this
noncomputable def runTail : List (Str × (AEnv → Res T)) → AEnv → Option (List D)
  | [], ρ => if allSh ρ then some [] else none
  | (_, f) :: fs, ρ => if allSh ρ then (match f ρ with
    | .ok t ρ₁ => (runTail fs ρ₁).map (t.val :: ·)
    | _ => none) else none
theorem runTail_sh {ts : List (Str × (AEnv → Res T))} {ρ : AEnv} {ds : List D} (h : runTail ts ρ = some ds) : allSh ρ = true := by
  cases ts with
  | nil => rw [runTail] at h; split at h; assumption; cases h
  | cons a ts => obtain ⟨n, f⟩ := a; rw [runTail] at h; split at h; assumption; cases h
noncomputable def runInit (i₀ : Nat) (pre : AEnv → Res Fl) (ts : List (Str × (AEnv → Res T))) (x : Addr) (ρ : AEnv) : IOut := match pre ρ with
  | .ok .next ρ₁ => (match ρ₁[i₀]? with
    | some (some (.sh (.glob (.ref y)))) => if y = x then (match runTail ts ρ₁ with
      | some ds => .ok ds
      | none => .stuck) else .stuck
    | _ => .stuck)
  | .exc C _ => .exc C
  | _ => .stuck
section
variable {G : Gd} {cx : Cx} {sc : Scope} {ρ : AEnv} {S : Addr → Prop} {h h' : Heap} {k : Nat}
abbrev Cx.at (cx : Cx) (g : Heap) : Cx := { cx with h₀ := g }
theorem Rel.rebase {g g' : Heap} {dx : Addr} {o₁ o₂ : Obj} {es : Array DictEntry} {n : Nat} (r : Rel G (cx.at g) sc ρ S h) (hsh : allSh ρ = true) (e₁ : h.get? dx = some o₁) (hd : o₁.data = .dict es n) (hS : ¬ S dx) (hl : dx ≠ cx.env.locals) (hB : G.B.get? dx = none) (hff : ∀ env ∈ cx.fs, env.frame ≠ some dx)
    (k : Heap.SameBut dx h h') (e₂ : h'.get? dx = some o₂) (gk : ∀ b, b ≠ dx → g'.get? b = g.get? b) (gd : g'.get? dx = some o₂) (g0 : ∃ o, g.get? dx = some o) :
    Rel G (cx.at g') sc ρ S h' ∧ Ext S h S h' ∧ VarSame cx.env h h' := by
  have hi : ¬ Imm o₁ := notImm_dict hd
  have x' : Ext S h S h' := RV.but e₁ hi hS (fun b o hb eb => (k.2 b hb).trans eb) ⟨_, e₂⟩
  have nsame : ∀ m, h.Ns cx.env.locals m → h'.Ns cx.env.locals m := fun m n => n.sameBut k (Ne.symm hl)
  have cne : ∀ y c, cx.env.cells.lookup y = some c → c ≠ dx := fun y c q => by
    rintro rfl
    obtain ⟨v, o, e'', hd'⟩ := r.cells y _ q
    rw [e₁] at e''; cases e''; rw [hd] at hd'; cases hd'
  have csame : ∀ y c, cx.env.cells.lookup y = some c → ∀ w, h.IsCell c w → h'.IsCell c w := fun y c q w n => n.sameBut k (cne y c q)
  have same : VarSame cx.env h h' := fun y w q => by
    rcases q with ⟨a, m₁, b, c⟩ | ⟨a, c, b, d⟩
    · exact .inl ⟨a, m₁, nsame m₁ b, c⟩
    · exact .inr ⟨a, c, b, csame y c b _ d⟩
  have hf : ∀ y w, Var cx.env h' y w → Var cx.env h y w := fun y w q => by
    rcases q with ⟨a, m₁, b, c⟩ | ⟨a, c, b, d⟩
    · obtain ⟨m₀, n₀⟩ := r.ns
      exact .inl ⟨a, m₀, n₀, by rw [(nsame m₀ n₀).agree b y]; exact c⟩
    · obtain ⟨w₀, n₀⟩ := r.cells y c b
      exact .inr ⟨a, c, b, by rw [IsCell.inj d (csame y c b _ n₀)]; exact n₀⟩
  refine ⟨⟨fun b o q => (k.2 b (by rintro rfl; rw [hB] at q; cases q)).trans (r.base b o q), fun b o q => ?_, fun env he => ?_, let ⟨m, n⟩ := r.ns; ⟨m, nsame m n⟩, fun y c q => let ⟨w, n⟩ := r.cells y c q; ⟨w, csame y c q w n⟩, fun b q => let ⟨o, eo⟩ := r.sdom b q; x'.dom b o eo, fun b q => ?_, r.sloc, r.scell, fun y b hdy q => let ⟨o, eo⟩ := r.live y b hdy (hf y _ q); x'.dom b o eo,
    fun i y m d _ hj => (allSh_no hsh hj).elim, fun v q => let ⟨C, e⟩ := r.hok v q; ⟨C, e.ext x'⟩, fun j y u hy hu => ?_, fun j l y z m m' d d' u hy hz hj hl a b => (allSh_no hsh hj).elim, fun i y m ks ds _ hj => (allSh_no hsh hj).elim⟩, x', same⟩
  · by_cases hb : b = dx
    · subst hb
      have q : g'.get? b = some o := q
      rw [gd] at q; cases q
      exact ⟨o₂.slots, e₂, fun _ => rfl⟩
    · have q : g'.get? b = some o := q
      rw [gk b hb] at q
      obtain ⟨sl, q₁, k₁⟩ := r.keep b o q
      exact ⟨sl, (k.2 b hb).trans q₁, k₁⟩
  · obtain ⟨p, L, o, b, c, d, es, n, q⟩ := r.ff env he
    exact ⟨p, L, o, b, c, (k.2 L (by rintro rfl; exact hff env he b)).trans d, es, n, q⟩
  · rcases r.sok b q with q' | q'
    · exact .inl q'
    · refine .inr ?_
      have q' : g.get? b = none := q'
      show g'.get? b = none
      rw [gk b (by rintro rfl; obtain ⟨o, e⟩ := g0; rw [q'] at e; cases e)]
      exact q'
  · obtain ⟨w, hw', tw⟩ := r.vars j y u hy hu
    cases u with
    | sh d => exact ⟨w, same y w hw', RV.ext x' tw⟩
    | ow m d => exact (allSh_no hsh hu).elim
inductive STail (G : Gd) (k : Nat) (sc : Scope) (C : Addr) (i₀ : Nat) (sf : Str) : List Stmt → List (Str × (AEnv → Res T)) → Prop
  | nil : STail G k sc C i₀ sf [] []
  | cons {value : Expr} {p ap pos : Pos} {n : Str} {f : AEnv → Res T} {sts : List Stmt} {ts : List (Str × (AEnv → Res T))} : Sim G k sc value f → (∀ env : Env, env.scope = sc → swapsWithSole [.Attribute (.Name sf p) n ap] value pos.line env = pure false) → (∀ env : Env, swappedStores [.Attribute (.Name sf p) n ap] value env = pure none) →
      W.takerIn G.K C n = some none → STail G k sc C i₀ sf sts ts → STail G k sc C i₀ sf (.Assign [.Attribute (.Name sf p) n ap] value pos :: sts) ((n, f) :: ts)
structure TI (G : Gd) (cx : Cx) (sc : Scope) (C x dx : Addr) (sf : Str) (g : Heap) (ρ : AEnv) (S : Addr → Prop) (h : Heap) (ns : List Str) (vs : List Value) (ds : List D) (m : Str → Option Value) : Prop where
  r : Rel G (cx.at g) sc ρ S h
  gk : ∀ b, b ≠ dx → g.get? b = cx.h₀.get? b
  gd : ∃ o, g.get? dx = some o
  xi : cx.h₀.get? x = some (W.instObj C dx)
  xd : x ≠ dx
  pd : ¬ cx.P dx
  bd : G.B.get? dx = none
  ld : dx ≠ cx.env.locals
  fd : ∀ env ∈ cx.fs, env.frame ≠ some dx
  var : Var cx.env h sf (.ref x)
  nsd : h.Ns1 dx m
  hm : ns.map m = vs.map some
  hmn : ∀ y, y ∉ ns → m y = none
  rv : RVs S h vs ds
theorem Kp.ns1 {h h' : Heap} (x : Kp h h') {a : Addr} {m : Str → Option Value} (hn : h.Ns1 a m) : h'.Ns1 a m := by
  obtain ⟨o, es, ep, ho, hd, r⟩ := hn
  obtain ⟨sl, e₁, _⟩ := x a o ho
  exact ⟨_, es, ep, e₁, hd, r⟩
theorem tail_ok (hG : G.Ok) {C x dx : Addr} {i₀ : Nat} {sf : Str} (hdb : (sf == ("__debug__" : Str)) = false) (hn : (sf == ("__classdict__" : Str)) = false) (hp : W.plainOver G.K C = true) (hh : (W.clsIn G.K C).any (·.hasDict) = true)
    (hs : W.findIn G.K (.ref C) "__setattr__" = some (some (.builtin "object.__setattr__"))) (ok : CxOk G cx sc k) {E : Value → Shared → Prop} {sts : List Stmt} {ts : List (Str × (AEnv → Res T))} (st : STail G k sc C i₀ sf sts ts) :
    ∀ {g : Heap} {ρ : AEnv} {S : Addr → Prop} {s : Shared} {ns : List Str} {vs : List Value} {ds ds' : List D} {m : Str → Option Value} {Q : Flow → Shared → Prop}, TI G cx sc C x dx sf g ρ S s.heap ns vs ds m → (ns ++ ts.map (·.1)).Nodup → (ns ++ ts.map (·.1)).length ≤ 100 → runTail ts ρ = some ds' →
    (∀ h' tk g' ρ' S' vs' m', TI G cx sc C x dx sf g' ρ' S' h' (ns ++ ts.map (·.1)) vs' (ds ++ ds') m' → (∀ b, S b → S' b) → Q .next { s with heap := h', toks := tk }) → wpAny G.M cx.A (execs sts cx.env) Q E s := by
  induction st with
  | nil =>
    intro g ρ S s ns vs ds ds' m Q ti nd hl ht hQ
    rw [runTail] at ht
    split at ht
    · cases ht
      rw [execs_nil]
      rw [List.map_nil, List.append_nil, List.append_nil] at hQ
      exact wpAny_pure (hQ s.heap s.toks g ρ S vs m ti fun _ q => q)
    · cases ht
  | cons hf hsw hw htk _ ih =>
    rename_i value p ap pos n f sts ts _
    intro g ρ S s ns vs ds ds' m Q ti nd hl ht hQ
    have hsh := runTail_sh ht
    rw [runTail, if_pos hsh] at ht
    rw [execs_cons]
    refine wpAny_bind ?_
    rw [exec_Assign]
    refine wpAny_bind (wpAny_standAt ?_)
    rw [hsw cx.env ok.hsc]
    refine wpAny_bind (wpAny_pure ?_)
    rw [if_neg (by decide)]
    have ok' : CxOk G (cx.at g) sc k := ⟨ok.hsc, ok.hk, ok.hg, ok.hb, ok.fr, ok.top, ok.hd, ok.room, ok.nodup⟩
    refine wpAny_bind ((hf (cx.at g) ok' ρ S s ti.r).shared _ _ ?_)
    cases hfv : f ρ with
    | stuck => rw [hfv] at ht; cases ht
    | exc C ρ₁ => rw [hfv] at ht; cases ht
    | ok t ρ₁ =>
      rw [hfv] at ht
      obtain ⟨ds₁, ht₁, rfl⟩ := Option.map_eq_some_iff.mp ht
      intro v h₁ t₁ S₁ r₁ j₁ x₁ v₁
      rw [hw]
      refine wpAny_bind (wpAny_pure ?_)
      show wpAny _ _ (do assignAll v [assign (.Attribute (.Name sf p) n ap) cx.env]; pure Flow.next) _ _ _
      refine wpAny_bind ?_
      show wpAny _ _ (assign (.Attribute (.Name sf p) n ap) cx.env v) _ _ _
      rw [arm_assign_Attribute]
      have hv₁ : Var cx.env h₁ sf (.ref x) := v₁ rfl sf _ ti.var
      refine wpAny_bind (wpAny_holding (wpAny_Name (sim_load (cx := cx) (ok.mono (Nat.zero_le _)) hv₁ hn rfl ?_) hdb))
      refine wpAny_bind (wpAny_standAt (wpAny_bind (wpAny_holding ?_)))
      have hx₁ : h₁.get? x = some (W.instObj C dx) := r₁.keep.exact ((ti.gk x ti.xd).trans ti.xi) (fun es m q => by cases q)
      have nd₁ : h₁.Ns1 dx m := by
        obtain ⟨o, es, ep, e, hd, rest⟩ := ti.nsd
        obtain ⟨o₀, e₀⟩ := ti.gd
        obtain ⟨sl, e₁, _⟩ := ti.r.keep dx o₀ e₀
        have e₁ : s.heap.get? dx = some { o₀ with slots := sl } := e₁
        rw [e] at e₁; cases e₁
        obtain ⟨sl', e₂, _⟩ := r₁.keep dx o₀ e₀
        exact ⟨_, es, ep, e₂, hd, rest⟩
      obtain ⟨od, es, ep, ed, hdd, _⟩ := id nd₁
      have I : W.InstAt h₁ x (W.instObj C dx) C (some od) := ⟨hx₁, rfl, rfl, ed⟩
      have X : G.K.In h₁ := hG.K.keeps r₁.base
      refine W.set_plain (s := { s with heap := h₁, toks := t₁ }) X I hs ?_
      refine W.osa_open (s := { s with heap := h₁, toks := t₁ + 1 }) X I hp htk fun b => ?_
      obtain ⟨cd, hc, hd'⟩ := W.any_some hh
      show wpAny _ _ (Builtin.ObjectAttr.storeInOwnDict (.ref x) (.ref C) (.str n t₁) n v b) _ _ _
      unfold Builtin.ObjectAttr.storeInOwnDict
      refine wpAny_bind (wpAny_pure (wpAny_bind (wpAny_bind (wpAny_loadPart hx₁ (wpAny_bind ((W.looks_clsIn X hc).here ?_))))))
      rw [hd']
      refine wpAny_pure (a := some dx) (wpAny_bind (wpAny_pure (wpAny_bind ?_)))
      refine wpAny_nsSet1 (s := { s with heap := h₁, toks := t₁ + 1 }) nd₁ fun h₂ n₂ k₂ => ?_
      have nn : n ∉ ns := fun q => by
        rw [List.map_cons] at nd
        exact (List.nodup_append.mp nd).2.2 n q n (.head _) rfl
      have hmn' : ∀ y, y ∉ ns ++ [n] → (if y = n then some v else m y) = none := fun y hy => by
        rw [List.mem_append, not_or] at hy
        rw [if_neg (by rintro rfl; exact hy.2 (.head _))]
        exact ti.hmn y hy.1
      obtain ⟨oD, esD, epD, hoD, hdD, hcD⟩ := n₂.count (ns := ns ++ [n]) fun y hy => by
        by_cases q : y ∈ ns ++ [n]
        · exact q
        · exact absurd (hmn' y q) hy
      refine wpAny_bind (wpAny_lookBehind hoD (by rw [hdD]; exact pastItsLine_dict (Nat.le_trans hcD (by
        rw [sizeLine_eq, List.length_append]
        rw [List.length_append, List.length_map, List.length_cons] at hl
        simp only [List.length_cons, List.length_nil]; omega))) ?_)
      refine wpAny_pure ?_
      show wpAny _ _ (release _ _) _ _ _
      refine wpAny_release ?_
      refine wpAny_pure ?_
      have hSd : ¬ S₁ dx := fun q => by
        rcases r₁.sok dx q with q | q
        · exact ti.pd q
        · obtain ⟨o, e⟩ := ti.gd
          have q : g.get? dx = none := q
          rw [q] at e; cases e
      obtain ⟨o₀, e₀⟩ := ti.gd
      have ge : (g.update dx fun _ => oD).get? dx = some oD := Heap.get?_update_self _ e₀ (Obj.isFreed_of_dict hdD)
      obtain ⟨r₂, x₂, v₂⟩ := r₁.rebase (g' := g.update dx fun _ => oD) (runTail_sh ht₁) ed hdd hSd ti.ld ti.bd ti.fd k₂ hoD (fun b hb => Heap.get?_update_other _ _ (Ne.symm hb)) ge ti.gd
      have rv₂ : RVs S₁ h₂ (vs ++ [v]) (ds ++ [t.val]) := RVs.append (.cons (j₁.ext x₂) .nil) ((ti.rv.ext x₁).ext x₂)
      have := ih (s := { s with heap := h₂, toks := t₁ + 1 + 1 }) (g := g.update dx fun _ => oD) (ns := ns ++ [n]) (vs := vs ++ [v]) (ds := ds ++ [t.val]) (m := fun y => if y = n then some v else m y) (Q := Q)
        ⟨r₂, fun b hb => (Heap.get?_update_other _ _ (Ne.symm hb)).trans (ti.gk b hb), ⟨oD, ge⟩, ti.xi, ti.xd, ti.pd, ti.bd, ti.ld, ti.fd, v₂ sf _ hv₁, n₂, by
          rw [List.map_append, List.map_append, List.map_cons, List.map_nil, if_pos rfl, ← ti.hm]
          congr 1
          exact List.map_congr_left fun y hy => if_neg (by rintro rfl; exact nn hy), hmn', rv₂⟩ (by rw [List.append_assoc]; exact nd) (by rw [List.append_assoc]; exact hl) ht₁
      refine this fun h' tk g' ρ' S' vs' m' ti' sub => ?_
      rw [List.append_assoc, List.append_assoc] at ti'
      exact hQ h' tk g' ρ' S' vs' m' ti' fun b q => sub b (x₁.sub b q)
end
end Mine
end

section
set_option Elab.async false
set_option maxRecDepth 100000
namespace Mine
open PySem PyProof.Rows
inductive SPre (G : Gd) (k : Nat) (sc : Scope) (sts : List Stmt) : List Stmt → (AEnv → Res Fl) → Prop
  | nil : SPre G k sc sts sts sNil
  | cons {st : Stmt} {rest : List Stmt} {f g : AEnv → Res Fl} : SimS G k sc st f → SPre G k sc sts rest g → SPre G k sc sts (st :: rest) (sSeq f g)
noncomputable def PEnd (G : Gd) (cx : Cx) (sc : Scope) (sts : List Stmt) (S : Addr → Prop) (s : Shared) (Q : Flow → Shared → Prop) (E : Value → Shared → Prop) : Res Fl → Prop
  | .ok .next ρ => ∀ h' tk S', Rel G cx sc ρ S' h' → Ext S s.heap S' h' → wpAny G.M cx.A (execs sts cx.env) Q E { s with heap := h', toks := tk }
  | .exc C ρ => ∀ e h' tk S', Rel G cx sc ρ S' h' → Fly s.heap h' e C → Ext S s.heap S' h' → E (.ref e) { s with heap := h', toks := tk }
  | _ => False
theorem SPre.wp {G : Gd} {k : Nat} {sc : Scope} {sts body : List Stmt} {f : AEnv → Res Fl} {cx : Cx} (p : SPre G k sc sts body f) (ok : CxOk G cx sc k) (fn : FnOk G cx) : ∀ {ρ : AEnv} {S : Addr → Prop} {s : Shared} {Q : Flow → Shared → Prop} {E : Value → Shared → Prop}, Rel G cx sc ρ S s.heap → PEnd G cx sc sts S s Q E (f ρ) → wpAny G.M cx.A (execs body cx.env) Q E s := by
  induction p with
  | nil => intro ρ S s Q E r out; exact out s.heap s.toks S r (Ext.refl ..)
  | cons h1 _ ih =>
    rename_i st rest f g _
    intro ρ S s Q E r out
    rw [execs_cons]
    refine wpAny_bind (h1 cx ok fn ρ S s r _ _ ?_)
    unfold sSeq at out
    cases hf : f ρ with
    | stuck => rw [hf] at out; exact out.elim
    | exc C ρ₁ => rw [hf] at out; exact out
    | ok fl ρ₁ =>
      rw [hf] at out
      simp only [Res.bind] at out
      intro a h₁ t₁ S₁ r₁ j₁ x₁ _
      cases a <;> cases fl <;> first | exact j₁.elim | exact out.elim | skip
      refine ih (s := { s with heap := h₁, toks := t₁ }) r₁ ?_
      have out : PEnd G cx sc sts S s Q E (g ρ₁) := out
      cases hg : g ρ₁ with
      | stuck => rw [hg] at out; exact out
      | exc C ρ₂ => rw [hg] at out; intro e h₂ t₂ S₂ r₂ f₂ x₂; exact out e h₂ t₂ S₂ r₂ (f₂.back x₁) (x₁.trans x₂)
      | ok fl ρ₂ =>
        rw [hg] at out
        cases fl <;> first | exact out | skip
        intro h₂ t₂ S₂ r₂ x₂
        exact out h₂ t₂ S₂ r₂ (x₁.trans x₂)
noncomputable def IEnd (G : Gd) (ns : List Str) (dx : Addr) (S : Addr → Prop) (s : Shared) (R : Result → Shared → Prop) : IOut → Prop
  | .ok ds => ∀ h' tk S' m vs, (∀ b o, b ≠ dx → s.heap.get? b = some o → ∃ sl, h'.get? b = some { o with slots := sl } ∧ (NotDict o → sl = o.slots)) → G.B.StaysIn h' → (∀ b, S b → S' b) → (∀ b, S' b → S b ∨ s.heap.get? b = none) → SDom S' h' → h'.Ns dx m → (ns.map m = vs.map some ∧ ∀ y, y ∉ ns → m y = none) → RVs S' h' vs ds → R (.ok (.ret .none)) { s with heap := h', toks := tk }
  | .exc C => ∀ e h' tk, Kp s.heap h' → G.B.StaysIn h' → FlyT s.heap h' e C → R (.error (.ref e)) { s with heap := h', toks := tk }
  | .stuck => False
noncomputable def InitOK (G : Gd) (k : Nat) (f : Value) (C : Addr) (ns : List Str) (I : Addr → List D → IOut) : Prop :=
  ∀ (A : Around) (fs : List Env) (S : Addr → Prop) (s : Shared) (vs : List Value) (ds : List D) (x dx : Addr), Room A k → A.frames = some fs → (G.quiet = true → A.handled = none) → (∀ v, A.handled = some v → ∃ C, RV S s.heap v (.exc C)) → FF G.B s.heap fs → G.B.StaysIn s.heap → SDom S s.heap → RVs S s.heap vs ds →
    s.heap.get? x = some (W.instObj C dx) → s.heap.Ns1 dx (fun _ => none) → x ≠ dx → ¬ S dx → G.B.get? dx = none → (∀ env ∈ fs, env.frame ≠ some dx) → ∀ R, IEnd G ns dx S s R (I x ds) → codeAny G.M A (.call f ⟨.ref x :: vs, []⟩) R s
noncomputable def runIn (n : Nat) (is : List Nat) (i₀ : Nat) (f : AEnv → Res Fl) (ts : List (Str × (AEnv → Res T))) (x : Addr) (ds : List D) : IOut := if ds.length + 1 = is.length then runInit i₀ f ts x (initI n is (.glob (.ref x) :: ds)) else .stuck
theorem initI_ok {G : Gd} (g : Gr G) {k : Nat} (a : Addr) (n : Nat) (is : List Nat) (i₀ : Nat) (C : Addr) (sf : Str) {f : AEnv → Res Fl} {sts : List Stmt} {ts : List (Str × (AEnv → Res T))} (h : SPre G k (fnAt G.K a).scope sts (stmtsOf (fnAt G.K a)) f) (ht : STail G k (fnAt G.K a).scope C i₀ sf sts ts)
    (hbind : ∀ vs : List Value, vs.length = (paramsOf (fnAt G.K a)).length → bindArgs (fnAt G.K a) ⟨vs, []⟩ = pure ((paramsOf (fnAt G.K a)).zip vs)) (hn : (varNames (fnAt G.K a).scope).length = n) (hi : idxsOf (varNames (fnAt G.K a).scope) (paramsOf (fnAt G.K a)) = is) (hsf : (varNames (fnAt G.K a).scope)[i₀]? = some sf)
    (hdb : (sf == ("__debug__" : Str)) = false) (hcd : (sf == ("__classdict__" : Str)) = false) (hp : W.plainOver G.K C = true) (hh : (W.clsIn G.K C).any (·.hasDict) = true)
    (hs : W.findIn G.K (.ref C) "__setattr__" = some (some (.builtin "object.__setattr__"))) (hnd : nodupB (ts.map (·.1)) = true) (hnl : ts.length ≤ 100)
    (hf : isFnAt G.K a = true) (hc : W.codeIn G.K (fnAt G.K a).code (fnAt G.K a).qualname = true) (hpl : plainFn (fnAt G.K a) = true) :
    InitOK G (k + 1) (.ref a) C (ts.map (·.1)) (runIn n is i₀ f ts) := by
  obtain ⟨fo, h1, h2⟩ := fn_at g hf
  unfold plainFn at hpl
  simp only [Bool.and_eq_true, beq_iff_eq, Bool.not_eq_true'] at hpl
  obtain ⟨⟨⟨⟨⟨⟨⟨⟨⟨p1, p2⟩, p3⟩, p4⟩, p5⟩, p6⟩, p7⟩, p8⟩, p9⟩, p10⟩ := hpl
  have p7' : ∀ x ∈ paramsOf (fnAt G.K a), (varNames (fnAt G.K a).scope).contains x = true ∧ ((fnAt G.K a).scope.names.lookup x = some .local ∨ (fnAt G.K a).scope.names.lookup x = some .cell) := fun x hx => by
    have := List.all_eq_true.mp p7 x hx
    simpa using this
  have hb : (fnAt G.K a).body = .stmts (stmtsOf (fnAt G.K a)) := by
    unfold stmtsOf
    split at p1
    · rename_i b e; rw [e]
    · cases p1
  intro A fs S s vs ds x dx room fr hd hok ff hB sd rv hx hdx hxd hSd hBd hfd R fin
  unfold runIn at fin
  split at fin
  rotate_left
  · exact fin.elim
  rename_i hlen
  have hil : is.length = (paramsOf (fnAt G.K a)).length := by rw [← hi]; unfold idxsOf; simp
  have rv' : RVs S s.heap (.ref x :: vs) (.glob (.ref x) :: ds) := .cons (.glob _ fun b e => by cases e; exact ⟨_, hx⟩) rv
  refine fn_in g.ok (body := stmtsOf (fnAt G.K a)) (ps := paramsOf (fnAt G.K a)) h1 h2 (W.codeRec_of g.ok.K hc) hb (by simpa using p2) p3 p4 hbind (fun x hx => (p7' x hx).2) (nodupB_ok p6) (nodupB_ok p5) p8 p9 p10 room fr hd hok ff hB sd rv' (by rw [List.length_cons, hlen, hil]) fun cx h₁ tk₁ ok fn e₀ eP eF eL r₀ hk₁ => ?_
  rw [initI_eq (nodupB_ok p5) (List.all_eq_true.mpr fun x hx => (p7' x hx).1), hn, hi] at r₀
  refine h.wp ok fn (s := { s with heap := h₁, toks := tk₁ }) r₀ ?_
  unfold runInit at fin
  cases hfr : f (initI n is (.glob (.ref x) :: ds)) with
  | stuck => rw [hfr] at fin; exact fin.elim
  | exc C ρ' =>
    rw [hfr] at fin
    intro e h₂ t₂ S₂ r₂ f₂ x₂
    refine wp_leaving (B := G.B) (h := h₁) (s := { s with heap := h₂, toks := t₂ }) ok.fr r₂.ff ok.top f₂ x₂.dom fun h₃ k₃ f₃ => ?_
    have r₃ := r₀.kpE r₂ k₃ f₂ f₃
    refine fin e h₃ t₂ (e₀ ▸ r₃.keep) r₃.base ?_
    obtain ⟨n, oe, ws, T, oT, ts, a1, a2, a0, a3, a4, a5, a6, a7, a8⟩ := f₃
    have back : ∀ b, h₁.get? b = none → s.heap.get? b = none := fun b q => by
      cases q' : s.heap.get? b with
      | none => rfl
      | some o => rw [hk₁ b o q'] at q; cases q
    exact ⟨back e n, oe, ws, T, oT, ts, a1, a2, a0, a3, a4, a5, a6, back T a7, a8⟩
  | ok fl ρ₁ =>
    rw [hfr] at fin
    cases fl <;> first | exact fin.elim | skip
    simp only at fin
    split at fin
    · rename_i y hy
      split at fin
      · rename_i hyx
        subst hyx
        cases htl : runTail ts ρ₁ with
        | none => rw [htl] at fin; exact fin.elim
        | some ds' =>
          rw [htl] at fin
          intro h₂ t₂ S₂ r₂ x₂
          obtain ⟨v, hv, tv⟩ := r₂.vars i₀ sf _ hsf hy
          cases tv
          have hdx₀ : cx.h₀.Ns1 dx (fun _ => none) := by rw [e₀]; exact hdx
          have hdx₂ : h₂.Ns1 dx (fun _ => none) := r₂.keep.ns1 hdx₀
          have gd : ∃ o, cx.h₀.get? dx = some o := let ⟨o, _, _, e, _⟩ := hdx₀; ⟨o, e⟩
          refine tail_ok g.ok (x := y) (dx := dx) hdb hcd hp hh hs ok ht (g := cx.h₀) (s := { s with heap := h₂, toks := t₂ }) (ns := []) (vs := []) (ds := []) (m := fun _ => none)
            ⟨r₂, fun _ _ => rfl, gd, by rw [e₀]; exact hx, hxd, by rw [eP]; exact hSd, hBd, ?_, ?_, hv, hdx₂, rfl, fun _ _ => rfl, .nil⟩ (nodupB_ok hnd) (by rw [List.nil_append, List.length_map]; exact hnl) htl fun h' tk g' ρ' S' vs' m' ti sub => ?_
          · rintro rfl
            obtain ⟨o, e⟩ := gd
            rw [fn.lnew] at e; cases e
          · intro env he
            obtain ⟨env₀, outer, e1, e2⟩ := ok.top
            rw [e1] at he eF
            rcases List.mem_cons.mp he with rfl | he
            · intro q
              rw [← e2, eL] at q; cases q
              obtain ⟨o, e⟩ := gd
              rw [fn.lnew] at e; cases e
            · exact hfd env (by rw [← eF]; exact he)
          · refine fin h' tk S' m' vs' (fun b o hb e => ?_) ti.r.base (fun b q => sub b (x₂.sub b q)) (fun b q => ?_) ti.r.sdom ti.nsd.ns ⟨by have := ti.hm; rwa [List.nil_append] at this, by have := ti.hmn; rwa [List.nil_append] at this⟩ (by have := ti.rv; rwa [List.nil_append] at this)
            · exact ti.r.keep b o ((ti.gk b hb).trans (by rw [e₀]; exact e))
            · rcases ti.r.sok b q with q' | q'
              · exact .inl (eP ▸ q')
              · refine .inr ?_
                have q' : g'.get? b = none := q'
                rw [← e₀, ← ti.gk b (by rintro rfl; obtain ⟨o, e⟩ := ti.gd; rw [q'] at e; cases e)]
                exact q'
      · exact fin.elim
    · exact fin.elim
end Mine
end

section
set_option Elab.async false
set_option maxRecDepth 100000
namespace Mine
open PySem PyProof.Rows
noncomputable def allX (I : Addr → List D → IOut) (ds : List D) : IOut := by
  classical exact if h : ∃ o, ∀ x, I x ds = o then Classical.choose h else .stuck
theorem allX_eq {I : Addr → List D → IOut} {ds : List D} {o : IOut} (h : ∀ x, I x ds = o) : allX I ds = o := by
  unfold allX
  have hh : ∃ o, ∀ x, I x ds = o := ⟨o, h⟩
  rw [dif_pos hh, ← Classical.choose_spec hh 0, h 0]
theorem allX_at {I : Addr → List D → IOut} {ds : List D} (x : Addr) (h : allX I ds ≠ .stuck) : I x ds = allX I ds := by
  unfold allX at h ⊢
  split at h
  · rename_i hh; rw [dif_pos hh]; exact Classical.choose_spec hh x
  · exact absurd rfl h
noncomputable def eMake (C : Addr) (ns : List Str) (I : Addr → List D → IOut) (fa : AEnv → Res (List Bv)) : AEnv → Res T := fun ρ => (fa ρ).bind fun bs ρ₁ => match getAll ρ₁ bs with
  | some ds => if bs.all (isShared ρ₁) then (match allX I ds with
    | .ok es => .ok (.sh (.obj C ns es)) ρ₁
    | .exc C' => .exc C' ρ₁
    | .stuck => .stuck) else .stuck
  | none => .stuck
section
variable {G : Gd} {k : Nat} {sc : Scope}
theorem under_make {A : Around} {C : Addr} {vs : List Value} {k' : Nat} (r : Room A (k' + 1)) : Room (A.under (.builtin "type.__call__" ⟨.ref C :: vs, []⟩)) k' ∧ (A.under (.builtin "type.__call__" ⟨.ref C :: vs, []⟩)).frames = A.frames ∧ (A.under (.builtin "type.__call__" ⟨.ref C :: vs, []⟩)).handled = A.handled := by
  have w : (Code.builtin "type.__call__" ⟨.ref C :: vs, []⟩).weight = 1 := by
    unfold Code.weight Code.isGuard Code.isCaller Code.isCreation
    rfl
  have u : (Code.builtin "type.__call__" ⟨.ref C :: vs, []⟩).cUnits = 1 := rfl
  refine ⟨⟨?_, ?_⟩, ?_, rfl⟩
  · show A.depth + (Code.builtin "type.__call__" ⟨.ref C :: vs, []⟩).weight + k' ≤ 900
    rw [w]; have := r.1; omega
  · show A.units + (Code.builtin "type.__call__" ⟨.ref C :: vs, []⟩).cUnits + 8 * k' ≤ 9000
    rw [u]; have := r.2; omega
  · unfold Around.under
    cases A.frames <;> rfl
theorem does_make {cx : Cx} {ρ : AEnv} {S : Addr → Prop} {s : Shared} {C f : Addr} {ns : List Str} {I : Addr → List D → IOut} {vs : List Value} {bs : List Bv} {ds : List D} {k' : Nat} (hG : G.Ok) (hI : InitOK G k' (.ref f) C ns I) (ok : CxOk G cx sc k) (hk : k' + 1 ≤ k) (hm : W.makesIn G.K C = true) (hi : W.findIn G.K (.ref C) "__init__" = some (some (.ref f))) (hf : W.typeIn G.K (.ref f) = some (.type "function"))
    (r : Rel G cx sc ρ S s.heap) (q : BVals cx sc S s.heap vs bs) (hs : bs.all (isShared ρ) = true) (e : getAll ρ bs = some ds) :
    Does G cx sc true (call (.ref C) vs []) S s (fun S' h' v t => TTmp cx S' h' v t) (match allX I ds with
      | .ok es => .ok (.sh (.obj C ns es)) ρ
      | .exc C' => .exc C' ρ
      | .stuck => .stuck) := by
  intro Q E out
  refine wpAny_call ?_
  have X : G.K.In s.heap := hG.K.keeps r.base
  obtain ⟨hh, gg, dd, tt, os⟩ := s
  refine W.make_core (W.makes_of X hm) (W.looks_findIn X hi) (fun sf => W.bind_fn X sf hf) (.inl rfl) ?_
  have kp : ∀ b o, hh.get? b = some o → ((hh.push W.emptyDict).push (W.instObj C hh.objs.size)).get? b = some o := fun b o e => Heap.get?_push_of_some _ (Heap.get?_push_of_some _ e)
  have hdx : ((hh.push W.emptyDict).push (W.instObj C hh.objs.size)).get? hh.objs.size = some W.emptyDict := Heap.get?_push_of_some _ (Heap.get?_push_size _ rfl)
  have hx : ((hh.push W.emptyDict).push (W.instObj C hh.objs.size)).get? (hh.objs.size + 1) = some (W.instObj C hh.objs.size) := by
    have := Heap.get?_push_size (hh.push W.emptyDict) (o := W.instObj C hh.objs.size) rfl
    rwa [Heap.size_push] at this
  have hn0 : hh.get? hh.objs.size = none := Heap.get?_none_of_le (Nat.le_refl _)
  have hn1 : hh.get? (hh.objs.size + 1) = none := Heap.get?_none_of_le (Nat.le_succ _)
  have r₁ : Rel G cx sc ρ S ((hh.push W.emptyDict).push (W.instObj C hh.objs.size)) := r.keeps kp
  have rv : RVs S ((hh.push W.emptyDict).push (W.instObj C hh.objs.size)) vs ds := (q.rvs r hs e).ext (Ext.of_keeps kp)
  obtain ⟨u1, u2, u3⟩ := under_make (C := C) (vs := vs) (k' := k') (ok.room.mono hk)
  refine hI _ cx.fs S ⟨(hh.push W.emptyDict).push (W.instObj C hh.objs.size), gg, dd, tt, os⟩ vs ds (hh.objs.size + 1) hh.objs.size u1 (u2.trans ok.fr) (fun z => u3.trans (ok.hd z)) (fun v z => r₁.hok v (u3 ▸ z)) r₁.ff r₁.base r₁.sdom rv hx ?_ (Nat.succ_ne_self _) ?_ ?_ ?_ _ ?_
  · exact Heap.Ns1.of_empty ⟨_, _, _, hdx, rfl, fun e he => absurd he (by simp), fun _ => rfl⟩
  · intro z; obtain ⟨o, e⟩ := r.sdom _ z; rw [hn0] at e; cases e
  · cases z : G.B.get? hh.objs.size with
    | none => rfl
    | some o => have := r.base _ o z; rw [hn0] at this; cases this
  · intro env he z
    obtain ⟨_, L, o, b, _, d, _⟩ := r.ff env he
    rw [z] at b; cases b
    rw [hn0] at d; cases d
  · cases ha : allX I ds with
    | stuck => rw [ha] at out; exact out.elim
    | exc C' =>
      rw [ha] at out
      rw [allX_at (I := I) (ds := ds) (hh.objs.size + 1) (by rw [ha]; intro z; cases z), ha]
      intro e h' tk k1 hb fl
      refine out e h' tk S (r₁.kp k1 hb) ?_ ((Ext.of_keeps kp).trans (Ext.of_kp k1))
      exact fl.fly.back (Ext.of_keeps (S := S) kp)
    | ok es =>
      rw [ha] at out
      rw [allX_at (I := I) (ds := ds) (hh.objs.size + 1) (by rw [ha]; intro z; cases z), ha]
      intro h' tk S' m vs' keep hb sub new sd nsd hmm rvs
      refine ⟨rfl, ?_⟩
      have kp' : Kp hh h' := fun b o e => keep b o (by rintro rfl; rw [hn0] at e; cases e) (kp b o e)
      have hx' : h'.get? (hh.objs.size + 1) = some (W.instObj C hh.objs.size) := by
        obtain ⟨sl, e₁, hs⟩ := keep _ _ (Nat.succ_ne_self _) hx
        rw [hs fun es m z => by cases z] at e₁; exact e₁
      have hdx' : ∃ o, h'.get? hh.objs.size = some o := let ⟨o, _, _, e, _⟩ := nsd; ⟨o, e⟩
      obtain ⟨r', x'⟩ := r.kpS (S' := fun b => S' b ∨ b = hh.objs.size ∨ b = hh.objs.size + 1) kp' hb (fun b z => .inl (sub b z)) (fun b z => by
        rcases z with z | rfl | rfl
        · rcases new b z with z | z
          · exact .inl z
          · refine .inr ?_
            cases z' : hh.get? b with
            | none => rfl
            | some o => have := kp b o z'; rw [z] at this; cases this
        · exact .inr hn0
        · exact .inr hn1) (fun b z => by
        rcases z with z | rfl | rfl
        · exact sd b z
        · exact hdx'
        · exact ⟨_, hx'⟩)
      exact out (.ref (hh.objs.size + 1)) h' tk _ r' (.obj (.inr (.inr rfl)) (.inr (.inl rfl)) hx' nsd hmm (rvs.ext (Ext.grow fun _ z => .inl z))) x' fun _ => r.same kp'
theorem sim_make (hG : G.Ok) {g : Str} {p pos : Pos} {C f : Addr} {ns : List Str} {I : Addr → List D → IOut} {args : List Expr} {fa : AEnv → Res (List Bv)} {k' : Nat} (hn : Sim G k sc (.Name g p) (eConst (.glob (.ref C)))) (hI : InitOK G k' (.ref f) C ns I) (hk : k' + 1 ≤ k) (ha : SimBs G k sc args fa) (hu : args.all unstarred = true)
    (hpl : ∀ env, ((backTo pos (starEach args env)).any (·.1) || ([] : List (Option Str × Sem Value)).any (·.1.isNone)) = false) (hkp : W.keepIn G.K (.ref C) = true) (hm : W.makesIn G.K C = true) (hi : W.findIn G.K (.ref C) "__init__" = some (some (.ref f))) (hf : W.typeIn G.K (.ref f) = some (.type "function")) :
    Sim G k sc (.Call (.Name g p) args [] pos) (eMake C ns I fa) := by
  intro cx ok ρ S s r Q E out
  show wpAny G.M cx.A (do callWith pos (← eval (.Name g p) cx.env) [] (backTo pos (starEach args cx.env)) []) Q E s
  refine wpAny_bind (hn cx ok ρ S s r _ _ ?_)
  intro v h₁ t₁ S₁ r₁ j₁ x₁ v₁
  have hv : v = .ref C := by cases j₁; rfl
  subst hv
  refine W.callWith_of (P := G.K.In) (hpl cx.env) (W.keeps_K hkp) (evalArgs_any hu ?_)
  refine ha pos cx ok ρ S₁ { s with heap := h₁, toks := t₁ } r₁ _ _ ?_
  unfold eMake at out
  cases hfa : fa ρ with
  | stuck => rw [hfa] at out; exact out.elim
  | exc C ρ' => rw [hfa] at out; intro e h₂ t₂ S₂ r₂ f₂ x₂; exact out e h₂ t₂ S₂ r₂ (f₂.back x₁) (x₁.trans x₂)
  | ok bs ρ' =>
    rw [hfa] at out
    simp only [Res.bind] at out
    intro vs h₂ t₂ S₂ r₂ j₂ x₂ v₂
    refine ⟨hG.K.keeps r₂.base, ?_⟩
    split at out
    · rename_i ds hds
      split at out
      · rename_i hs
        refine does_make (s := { s with heap := h₂, toks := t₂ }) hG hI ok hk hm hi hf r₂ j₂ hs hds Q E ?_
        cases hc : allX I ds with
        | stuck => rw [hc] at out; exact out
        | exc C' => rw [hc] at out; intro e h₃ t₃ S₃ r₃ f₃ x₃; exact out e h₃ t₃ S₃ r₃ (f₃.back (x₁.trans x₂)) ((x₁.trans x₂).trans x₃)
        | ok es => rw [hc] at out; intro w h₃ t₃ S₃ r₃ j₃ x₃ v₃; exact out w h₃ t₃ S₃ r₃ j₃ ((x₁.trans x₂).trans x₃) fun q => ((v₁ q).trans (v₂ q)).trans (v₃ q)
      · exact out.elim
    · exact out.elim
end
end Mine
end

section
set_option Elab.async false
set_option maxRecDepth 100000
namespace Mine
open PySem PyProof.Rows
noncomputable def intD : D → Option T
  | .bool b => some (.sh (.int (if b then 1 else 0)))
  | _ => none
noncomputable def intI : List D → Option T := one intD
theorem op_int {G : Gd} : OpN G (fun vs => call (.type "int") vs []) intI := by
  intro cx sc ok ρ S s vs ds t rel q e Q E out
  obtain ⟨d, rfl, e⟩ := one_inv e
  cases d with
  | bool b =>
    cases e
    cases q with
    | cons qx q =>
      cases q
      rw [qx.bool]
      exact call_int_bool (out_sh out rel (.int _ _))
  | _ => exact nn e
noncomputable def idxFrom (p : PyData) (i : Nat) : List PyData → Option Nat
  | [] => none
  | q :: r => match i with
    | 0 => if PyData.eqv q p then some 0 else (idxFrom p 0 r).map (· + 1)
    | i + 1 => (idxFrom p i r).map (· + 1)
noncomputable def lidxI : List D → Option T
  | [.list ds, x, .int i] => (match toPys ds, toPy x with
    | some ps, some p => if SeqAt.shaped (.list ps) && SeqAt.shaped p && decide (0 ≤ i ∧ i ≤ 1000000 ∧ ps.length ≤ 1000000) then (idxFrom p i.toNat ps).map fun (j : Nat) => T.sh (.int (j : Int)) else none
    | _, _ => none)
  | _ => none
theorem idxFrom_spec {p : PyData} {ps : List PyData} : ∀ {i j : Nat}, idxFrom p i ps = some j → i ≤ j ∧ (∃ q, ps[j]? = some q ∧ PyData.eqv q p = true) ∧ ∀ m q, i ≤ m → m < j → ps[m]? = some q → PyData.eqv q p = false := by
  induction ps with
  | nil => intro i j h; cases i <;> cases h
  | cons q r ih =>
    intro i j h
    cases i with
    | zero =>
      have h : (if PyData.eqv q p = true then some 0 else (idxFrom p 0 r).map (· + 1)) = some j := h
      by_cases hq : PyData.eqv q p = true
      · rw [if_pos hq] at h; cases h
        exact ⟨Nat.le_refl _, ⟨q, rfl, hq⟩, fun m q _ hm => absurd hm (Nat.not_lt_zero _)⟩
      · rw [if_neg hq] at h
        obtain ⟨k, hk, rfl⟩ := Option.map_eq_some_iff.mp h
        obtain ⟨_, ⟨q', h2, h3⟩, h4⟩ := ih hk
        refine ⟨Nat.zero_le _, ⟨q', h2, h3⟩, fun m q₁ _ hm e => ?_⟩
        cases m with
        | zero => cases e; exact Bool.eq_false_iff.mpr hq
        | succ m => exact h4 m q₁ (Nat.zero_le _) (Nat.lt_of_succ_lt_succ hm) e
    | succ i =>
      obtain ⟨k, hk, rfl⟩ := Option.map_eq_some_iff.mp (show (idxFrom p i r).map (· + 1) = some j from h)
      obtain ⟨h1, ⟨q', h2, h3⟩, h4⟩ := ih hk
      refine ⟨Nat.succ_le_succ h1, ⟨q', h2, h3⟩, fun m q₁ hi hm e => ?_⟩
      cases m with
      | zero => exact absurd hi (Nat.not_succ_le_zero _)
      | succ m => exact h4 m q₁ (Nat.le_of_succ_le_succ hi) (Nat.lt_of_succ_lt_succ hm) e
theorem list_index3 (l : Addr) (items : Array Value) (n : Nat) (dd : Option Addr) (sl : Array (Option Value)) (x : Value) (e : Value → Bool) (i : Nat) (t : Tok) (j : Nat) (hj : j < items.size) (hsmall : (j : Int) < 2 ^ 63 - 1) (hij : i ≤ j) (hfit : (i : Int) < 2 ^ 62)
    (hit : e items[j] = true) (hno : ∀ m (hm : m < items.size), i ≤ m → m < j → e items[m] = false) :
    Meets (Builtin.«list.index» ⟨[.ref l, x, .int i t], []⟩)
      (fun A R s => s.heap.get? l = some { cls := .type "list", dict := dd, data := .seq items n, slots := sl } ∧ (∀ y, y ∈ items → SeqAt.EqAt A.in1 s y x (e y)) ∧ R (.ok (.ret (.int j s.toks))) { s with toks := s.toks + 1 }) := by
  intro prog w A R s h
  obtain ⟨hp, g, d, tk, os⟩ := s; obtain ⟨hl, he, h⟩ := h
  wp_walk using wpAny_loadPart' hl
  have a1 : ((fun k : Int => if k < 0 then max 0 (k + (items.size : Int)) else k) ((some (i : Int)).getD 0)) = ((i : Nat) : Int) := by simp; omega
  have a2 : ((fun i : Int => if i < 0 then max 0 (i + (items.size : Int)) else i) ((none : Option Int).getD (2 ^ 63 - 1))) = 2 ^ 63 - 1 := by simp
  rw [a1, a2]
  exact ⟨plainId_quiet MeetsSeq.plain_index_loop _, codeAny_builtin MeetsSeq.entry_index_loop (by
    rw [Around.under_plainId MeetsSeq.plain_index_loop _]
    exact SeqAt.index_loopAt l items n dd sl x e (2 ^ 63 - 1) j hj hsmall hit _ i rfl hij (fun m hm h1 h2 => hno m hm h1 h2) prog w A R _ ⟨hl, he, h⟩)⟩
theorem readsAll_get {h : Heap} {vs : List Value} : ∀ {ps : List PyData} {as : List Addr}, ReadsAll h vs ps as → PyData.canLayAll0 ps = true → ∀ {j : Nat} {v : Value}, vs[j]? = some v → ∃ q, ps[j]? = some q ∧ SeqAt.readOf h v = q := by
  induction vs with
  | nil => intro ps as r hc j v e; cases e
  | cons w vs ih =>
    intro ps as r hc j v e
    cases r with
    | cons r1 r2 =>
      have hc' := Bool.and_eq_true_iff.mp hc
      cases j with
      | zero => cases e; exact ⟨_, rfl, SeqAt.readOf_eq hc'.1 r1⟩
      | succ j => exact ih r2 hc'.2 e
theorem readsAll_len {h : Heap} {vs : List Value} : ∀ {ps : List PyData} {as : List Addr}, ReadsAll h vs ps as → vs.length = ps.length := by
  induction vs with
  | nil => intro ps as r; cases r; rfl
  | cons w vs ih => intro ps as r; cases r with | cons _ r => exact congrArg (· + 1) (ih r)
theorem op_lidx {G : Gd} : OpN G (fun vs => call (.builtin "list.index") vs []) lidxI := by
  intro cx sc ok ρ S s vs ds t rel q e Q E out
  unfold lidxI at e
  split at e
  · rename_i ds' x i
    split at e
    · rename_i ps p hps hp
      split at e
      · rename_i hs
        simp only [Bool.and_eq_true, decide_eq_true_eq] at hs
        obtain ⟨⟨hs1, hs2⟩, hi0, hi1, hl1⟩ := hs
        obtain ⟨j, hj, rfl⟩ := Option.map_eq_some_iff.mp e
        obtain ⟨hij, ⟨qj, hqj, hqe⟩, hno⟩ := idxFrom_spec hj
        cases q with
        | cons qx q =>
          cases q with
          | cons qv q =>
            cases q with
            | cons qi q =>
              cases q
              obtain ⟨u, rfl⟩ := qi.int
              obtain ⟨as, rl⟩ := RV.reads qx.any (toPy_list hps)
              obtain ⟨bs, rp⟩ := RV.reads qv.any hp
              cases rl with
              | list h1 h2 h3 h4 =>
                rename_i a o items n as'
                obtain ⟨cls, dd, data, sl⟩ := o
                simp only at h2 h3
                subst h2 h3
                obtain ⟨k, rfl⟩ := Int.eq_ofNat_of_zero_le hi0
                have sh := shaped_items hs1
                have room := ok.room.2
                have hu : cx.A.units + 1 + min (PyData.depthAll ps) p.depth < cLine := by unfold cLine; have := Nat.min_le_left (PyData.depthAll ps) p.depth; omega
                have hlen := readsAll_len h4
                have hjl : j < ps.length := (List.getElem?_eq_some_iff.mp hqj).1
                have hjs : j < items.size := by rw [← Array.length_toList, hlen]; exact hjl
                have at_ : ∀ m (hm : m < items.size), ∃ q, ps[m]? = some q ∧ SeqAt.readOf s.heap items[m] = q := fun m hm => readsAll_get h4 sh.1 (j := m) (v := items[m]) (by rw [Array.getElem?_toList]; exact Array.getElem?_eq_getElem hm)
                refine call_meets PySem.F.slot_list_index ⟨_, h1, rfl⟩ PySem.F.entry_list_index (PySem.F.args_list_index_3 _ _ _)
                  (list_index3 a items n dd sl _ (fun y => PyData.eqv (SeqAt.readOf s.heap y) p) k u j hjs (by omega) (by simpa using hij) (by omega) ?_ ?_) ⟨h1, SeqAt.items_eqAt h4 rp sh.1 (SeqAt.canLay_of_shaped hs2) hu, out_sh out rel (.int _ _)⟩
                · obtain ⟨q, e1, e2⟩ := at_ j hjs
                  rw [hqj] at e1; cases e1
                  show PyData.eqv (SeqAt.readOf s.heap items[j]) p = true
                  rw [e2]; exact hqe
                · intro m hm h1 h2
                  obtain ⟨q, e1, e2⟩ := at_ m hm
                  show PyData.eqv (SeqAt.readOf s.heap items[m]) p = false
                  rw [e2]
                  exact hno m q (by simpa using h1) h2 e1
      · cases e
    · cases e
  · cases e
noncomputable def eMethL (F : List D → Option T) (f : AEnv → Res Bv) (fa : AEnv → Res (List Bv)) : AEnv → Res T := fun ρ => (f ρ).bind fun a ρ₁ => match a.get ρ₁ with
  | some (.list ds) => if ds.all isIntD then .stuck else (fa ρ₁).bind fun bs ρ₂ => (match getAll ρ₂ (a :: bs) with
    | some ds => (match F ds with | some t => .ok t ρ₂ | none => .stuck)
    | none => .stuck)
  | _ => .stuck
theorem sim_methL {G : Gd} {k : Nat} {sc : Scope} {o : Expr} {name : Str} {id : String} {args : List Expr} {apos pos : Pos} {F : List D → Option T} {f : AEnv → Res Bv} {fa : AEnv → Res (List Bv)} (slot : Slot "list" name id) (hty : typeOf (.builtin id) = pure (.type "method_descriptor")) (hop : OpN G (fun vs => call (.builtin id) vs []) F)
    (ho : SimB G k sc o f) (ha : SimBs G k sc args fa) (hbase : ∀ env, attributeBase o name env (eval o env) = eval o env := by intro _; rfl) (hfew : ∀ env, ((backTo pos (starEach args env)).all (fun x => !x.1) && (backToKw pos (keywordEach [] env)).all (fun x => x.1.isSome) && decide (args.length + ([] : List Keyword).length + (if ([] : List Keyword).isEmpty then 0 else 1) < 30)) = true := by intro _; rfl) (hline : (apos.endLine == pos.line) = true := by rfl) (hu : args.all unstarred = true := by kernel_rfl) :
    Sim G k sc (.Call (.Attribute o name apos) args [] pos) (eMethL F f fa) := by
  intro cx ok ρ S s r Q E out
  refine wpAny_Call_method (hbase _) (hfew _) hline PySem.F.plainAttrs_list slot hty ?_
  refine ho cx ok ρ S s r _ _ ?_
  unfold eMethL at out
  cases hf : f ρ with
  | stuck => rw [hf] at out; exact out.elim
  | exc C ρ' => rw [hf] at out; exact out
  | ok a ρ₁ =>
    rw [hf] at out
    simp only [Res.bind] at out
    intro v h₁ t₁ S₁ r₁ j₁ x₁ v₁
    split at out
    · rename_i ds₀ hx
      split at out
      · exact out.elim
      rename_i hni
      obtain ⟨b, ob, vs₀, n₀, rfl, e1, e2, e3, q₀⟩ := (BVal.rb j₁ r₁ hx).list
      refine ⟨⟨ob, e1, e2⟩, (fun c ec => ?_), ?_⟩
      · cases ec
        exact ⟨ob, e1, (BVal.rb j₁ r₁ hx).bare e1 (by simpa using hni)⟩
      refine callWith_plain (fun a e => by cases e) (star_plain args hu) (evalArgs_any hu ?_)
      refine ha pos cx ok ρ₁ S₁ { s with heap := h₁, toks := t₁ } r₁ _ _ ?_
      cases hfa : fa ρ₁ with
      | stuck => rw [hfa] at out; exact out.elim
      | exc C ρ' => rw [hfa] at out; intro e h₂ t₂ S₂ r₂ f₂ x₂; exact out e h₂ t₂ S₂ r₂ (f₂.back x₁) (x₁.trans x₂)
      | ok bs ρ' =>
        rw [hfa] at out
        simp only at out
        intro ws h₂ t₂ S₂ r₂ j₂ x₂ v₂
        split at out
        · rename_i es hes
          split at out
          · rename_i t ht
            refine hop cx sc (ok.mono (Nat.zero_le _)) ρ' S₂ { s with heap := h₂, toks := t₂ } _ es t r₂ (BVals.all (.cons (BVal.ext j₁ x₂ (v₂ rfl)) j₂) r₂ hes) ht Q E ?_
            intro w h₃ t₃ S₃ r₃ j₃ x₃ v₃
            exact out w h₃ t₃ S₃ r₃ j₃ ((x₁.trans x₂).trans x₃) fun q => ((v₁ q).trans (v₂ q)).trans (v₃ q)
          · exact out.elim
        · exact out.elim
    · exact out.elim
section
variable {prog : Program} {w : World} {A : Around} {E : Value → Shared → Prop} {s : Shared}
theorem rev_next_end {it l : Addr} {Q : Option Value → Shared → Prop} (hh : HOk A s.heap) (hit : s.heap.IsRevIter it l (-1)) (hQ : ∀ h', KB [it] s.heap h' → Q none { s with heap := h' }) : wpAny (model prog w) A (pyNext (.ref it)) Q E s := by
  obtain ⟨o, ho, hc, hd⟩ := id hit
  unfold pyNext
  refine wpAny_bind (wpAny_attempt (wpAny_callSpecial?_slot (name := Str.ofString "__next__") hit.typeIs F.slot_lri_next
    (wpAny_call_entry F.slot_lri_next hit.typeIs F.entry_lri_next ?_ (F.args_lri_next_1 _))))
  unfold Builtin.«list_reverseiterator.__next__»
  refine wpAny_bind (wpAny_of_eq (a := (Value.ref it, [])) rfl ?_)
  try dsimp only
  refine wpAny_bind (wpAny_field ho hd (x := rawInt (-1)) rfl ?_)
  show wpAny _ _ (if (-1 : Int) < 0 then _ else _) _ _ s
  rw [if_pos (by decide)]
  refine wpAny_bind (wpAny_rule ?_)
  first
  | show wpAny _ _ (newExc (.type "StopIteration") [] >>= fun e => raiseNew e) _ _ _
  | (refine wpAny_bind ?_; show wpAny _ _ (newExc (.type "StopIteration") [] >>= fun e => raiseNew e) _ _ _)
  refine wp_stop (A := A.in1) hh fun h' e k he => ?_
  obtain ⟨oe, he, hce⟩ := he
  refine wpAny_bind (wpAny_isInstance (T := "StopIteration") (b := true) ⟨_, he, hce⟩ isSubtype_stop ?_)
  exact wpAny_pure (hQ _ ⟨fun b o _ e => k b o e, fun b hb => by cases List.mem_singleton.mp hb; exact ⟨_, k _ _ ho⟩⟩)
end
section
variable {G : Gd} {A : Around} {tg : Expr}
noncomputable def RevSt (I l : Addr) (ds : List D) (i : Nat) (S : Addr → Prop) (h : Heap) : Prop :=
  h.IsRevIter I l ((ds.length : Int) - 1 - i) ∧ i ≤ ds.length ∧ ∃ o vs n, h.get? l = some o ∧ o.cls = .type "list" ∧ o.data = .seq vs n ∧ RVs S h vs.toList ds ∧ S l
theorem itK_rev {I l : Addr} (hne : l ≠ I) (ds : List D) : ItK G A tg I [I] (RevSt I l ds) ds.reverse where
  shape := fun i S h st b hb => by
    obtain ⟨⟨o, a1, a2, a3⟩, _⟩ := st
    exact ⟨o, by rw [List.mem_singleton.mp hb]; exact a1, _, _, a2, by decide, by decide, by decide, a3⟩
  ext := fun i S h S' h' st x => by
    obtain ⟨⟨o, a1, a2, a3⟩, hi, ol, vs, n, b1, b2, b3, b4, b5⟩ := st
    exact ⟨⟨o, x.exact a1 (.inr (.inr ⟨_, a3⟩)) (.fields a3), a2, a3⟩, hi, ol, vs, n, x.exact b1 (.inl b5) (.seq b3), b2, b3, b4.ext x, x.sub _ b5⟩
  item := fun i S s d Q E E' hd st hQ => by
    obtain ⟨⟨o, a1, a2, a3⟩, hi, ol, vs, n, b1, b2, b3, b4, b5⟩ := st
    have hil : i < ds.length := by
      have := (List.getElem?_eq_some_iff.mp hd).1
      simpa using this
    have hd' : ds[ds.length - 1 - i]? = some d := by rw [← List.getElem?_reverse hil]; exact hd
    obtain ⟨v, hv, rv⟩ := b4.get hd'
    have e1 : (ds.length : Int) - 1 - (i : Int) = ((ds.length - 1 - i : Nat) : Int) := by omega
    have hit : s.heap.IsRevIter I l ((ds.length - 1 - i : Nat) : Int) := ⟨o, a1, a2, by rw [← e1]; exact a3⟩
    refine wpAny_pyNext_rev_item hit ⟨ol, b1, b2, n, b3⟩ (by simpa using hv) fun h' it' k' => ⟨v, rfl, ?_⟩
    have it0 := it'
    obtain ⟨o', c1, c2, c3⟩ := it0
    have kb := KB.of_sameBut k' ⟨o', c1⟩
    have sh : ∀ b ∈ [I], ∃ o, s.heap.get? b = some o ∧ Iterish o := fun b hb => ⟨o, by rw [List.mem_singleton.mp hb]; exact a1, _, _, a2, by decide, by decide, by decide, a3⟩
    have e2 : ((ds.length - 1 - i : Nat) : Int) - 1 = (ds.length : Int) - 1 - ((i + 1 : Nat) : Int) := by omega
    exact owned_none (s := { s with heap := h' }) c1 c2 c3 (by decide) (hQ v h' s.toks (rv.aside sh kb) ⟨by rw [← e2]; exact it', hil, ol, vs, n, (k'.2 l hne).trans b1, b2, b3, b4.aside sh kb, b5⟩ kb)
  done := fun S s Q E st hh hni hQ => by
    obtain ⟨hit, hi, _⟩ := st
    have e : (ds.length : Int) - 1 - ((ds.reverse.length : Nat) : Int) = -1 := by rw [List.length_reverse]; omega
    rw [e] at hit
    exact rev_next_end hh hit fun h' k => hQ h' s.toks k
  self := fun i S s Q E st hQ => wpAny_pyIter_revIter st.1 hQ
end
noncomputable def eRev (f : AEnv → Res T) : AEnv → Res (List D) := fun ρ => (f ρ).bind fun t ρ₁ => match t.val with
  | .list ds => .ok ds.reverse ρ₁
  | _ => .stuck
theorem simI_rev {G : Gd} {k : Nat} {sc : Scope} {tg e : Expr} {x : Str} {p pos : Pos} {f : AEnv → Res T} (hn : Sim G k sc (.Name x p) (eConst (.glob (.type "reversed")))) (h : Sim G k sc e f) (hu : unstarred e = true) : SimI G k sc tg (.Call (.Name x p) [e] [] pos) (eRev f) := by
  intro cx ok ρ S s r Q E out
  show wpAny G.M cx.A (do callWith pos (← eval (.Name x p) cx.env) [] (backTo pos (starEach [e] cx.env)) []) _ E s
  refine wpAny_bind (hn cx ok ρ S s r _ _ ?_)
  intro v h₀ t₀ S₀ r₀ j₀ x₀ v₀
  have hv : v = .type "reversed" := by cases j₀; rfl
  subst hv
  refine callWith_plain (fun a e => by cases e) (star_plain [e] (by simp [hu])) (evalArgs_any (by simp [hu]) ?_)
  have hs : starEach [e] cx.env = [(false, eval e cx.env)] := by rw [starEach_cons hu]; rfl
  rw [hs]
  refine Calls.spliced_cons ?_
  refine (h cx ok ρ S₀ { s with heap := h₀, toks := t₀ } r₀).shared _ _ ?_
  unfold eRev at out
  cases hf : f ρ with
  | stuck => rw [hf] at out; exact out.elim
  | exc C ρ₁ => rw [hf] at out; intro e h₂ t₂ S₂ r₂ f₂ x₂; exact out e h₂ t₂ S₂ r₂ (f₂.back x₀) (x₀.trans x₂)
  | ok t ρ₁ =>
    rw [hf] at out
    simp only [Res.bind] at out ⊢
    intro v h₁ t₁ S₁ r₁ j₁ x₁ v₁
    refine Calls.spliced_nil ?_
    have xx := x₀.trans x₁
    split at out
    · rename_i ds e
      rw [e] at j₁
      cases j₁ with
      | list hs e1 e2 e3 q =>
        rename_i a o vs n
        have hvl : (vs.size : Int) = (ds.length : Int) := by have := q.length; rw [Array.length_toList] at this; rw [this]
        refine call_reversed_list (s := { s with heap := h₁, toks := t₁ }) ⟨o, e1, e2.1, n, e3⟩ ?_
        have hne : a ≠ h₁.objs.size := fun e => by rw [e, Heap.get?_none_of_le (Nat.le_refl _)] at e1; cases e1
        have hI : (h₁.push (revObj a ((vs.size : Int) - 1))).IsRevIter h₁.objs.size a ((ds.length : Int) - 1 - ((0 : Nat) : Int)) := by
          rw [hvl]
          have : (ds.length : Int) - 1 - ((0 : Nat) : Int) = (ds.length : Int) - 1 := by omega
          rw [this]
          exact ⟨_, Heap.get?_push_size _ rfl, rfl, rfl⟩
        refine wpAny_pyIter_revIter (s := { s with heap := h₁.push (revObj a ((vs.size : Int) - 1)), toks := t₁ }) hI ?_
        exact out _ [h₁.objs.size] _ S₁ _ t₁ (Rel.push (s := { s with heap := h₁ }) r₁ _) (itK_rev hne ds) ⟨hI, Nat.zero_le _, o, vs, n, Heap.get?_push_of_some _ e1, e2.1, e3, q.ext (ext_push _), hs⟩ (fun b hb => by
          rw [List.mem_singleton.mp hb]
          exact xx.none (Heap.get?_none_of_le (Nat.le_refl _))) (xx.trans (ext_push _)) (((v₀ rfl).trans (v₁ rfl)).trans (r₁.same (kp_push _)))
    · exact out.elim
end Mine
end

section
set_option Elab.async false
set_option maxRecDepth 100000
namespace Mine
open PySem PyProof.Rows
section
variable {G : Gd} {k : Nat} {sc : Scope} {x : Str} {p : Pos} {args : List Expr} {pos : Pos}
theorem atr (g : Gr G) (C : Addr) {n : Str} (i : Nat) (hx : (varNames sc)[i]? = some x := by kernel_rfl) (hd : (x == ("__debug__" : Str)) = false := by kernel_rfl) (hn : (x == ("__classdict__" : Str)) = false := by kernel_rfl)
    (hga : W.findIn G.K (.ref C) "__getattribute__" = some (some (.builtin "object.__getattribute__")) := by kernel_rfl) (hc : (W.clsIn G.K C).any (·.hasDict) = true := by kernel_rfl) (hf : W.findIn G.K (.ref C) n = some none := by kernel_rfl) : Sim G k sc (.Attribute (.Name x p) n pos) (eAttr C n i) := sim_attr g.ok hx hd hn hga hc hf
theorem mtd (g : Gr G) (C f : Addr) (i : Nat) {n : Str} {apos : Pos} {k' : Nat} {F : List D → FOut} {fa : AEnv → Res (List Bv)} (hF : FnOK G k' (.ref f) F) (ha : SimBs G k sc args fa) (hk : k' ≤ k := by decide) (hfn : isFnAt G.K f = true := by kernel_rfl) (hu : args.all unstarred = true := by kernel_rfl)
    (hx : (varNames sc)[i]? = some x := by kernel_rfl) (hd : (x == ("__debug__" : Str)) = false := by kernel_rfl) (hn : (x == ("__classdict__" : Str)) = false := by kernel_rfl)
    (hfew : ∀ env, ((backTo pos (starEach args env)).all (fun x => !x.1) && (backToKw pos (keywordEach [] env)).all (fun x => x.1.isSome) && decide (args.length + ([] : List Keyword).length + (if ([] : List Keyword).isEmpty then 0 else 1) < 30)) = true := by intro _; rfl) (hline : (apos.endLine == pos.line) = true := by rfl)
    (hga : W.findIn G.K (.ref C) "__getattribute__" = some (some (.builtin "object.__getattribute__")) := by kernel_rfl) (hgt : W.findIn G.K (.ref C) "__getattr__" = some none := by kernel_rfl) (hf : W.findIn G.K (.ref C) n = some (some (.ref f)) := by kernel_rfl) (hty : W.typeIn G.K (.ref f) = some (.type "function") := by kernel_rfl) :
    Sim G k sc (.Call (.Attribute (.Name x p) n apos) args [] pos) (eMtd C n i F fa) := by
  obtain ⟨fo, h1, h2⟩ := fn_at g hfn
  exact sim_mtd g.ok hF hk h1 h2 ha hu hx hd hn hfew hline hga hgt hf hty
theorem mak (g : Gr G) (C f : Addr) {ns : List Str} {k' : Nat} {I : Addr → List D → IOut} {fa : AEnv → Res (List Bv)} (hI : InitOK G k' (.ref f) C ns I) (ha : SimBs G k sc args fa) (hk : k' + 1 ≤ k := by decide) (hu : args.all unstarred = true := by kernel_rfl)
    (e : W.nsIn G.K mainGlobals x = some (some (.ref C)) := by kernel_rfl) (ho : (G.K.lookup C).isSome = true := by kernel_rfl) (hx : sc.names.lookup x = some .globalImplicit := by kernel_rfl) (hd : (x == ("__debug__" : Str)) = false := by kernel_rfl)
    (hpl : ∀ env, ((backTo pos (starEach args env)).any (·.1) || ([] : List (Option Str × Sem Value)).any (·.1.isNone)) = false := by intro _; rfl) (hkp : W.keepIn G.K (.ref C) = true := by kernel_rfl) (hm : W.makesIn G.K C = true := by kernel_rfl) (hi : W.findIn G.K (.ref C) "__init__" = some (some (.ref f)) := by kernel_rfl) (hf : W.typeIn G.K (.ref f) = some (.type "function") := by kernel_rfl) :
    Sim G k sc (.Call (.Name x p) args [] pos) (eMake C ns I fa) := sim_make g.ok (gF g C e ho hx hd) hI hk ha hu hpl hkp hm hi hf
theorem tC {C : Addr} {i₀ : Nat} {sf n : Str} {ap : Pos} {value : Expr} {f : AEnv → Res T} {sts : List Stmt} {ts : List (Str × (AEnv → Res T))} (h : Sim G k sc value f) (hr : STail G k sc C i₀ sf sts ts) (hsw : ∀ env : Env, swapsWithSole [.Attribute (.Name sf p) n ap] value pos.line env = pure false := by intro _; rfl) (hw : ∀ env : Env, swappedStores [.Attribute (.Name sf p) n ap] value env = pure none := by intro _; rfl) (ht : W.takerIn G.K C n = some none := by kernel_rfl) :
    STail G k sc C i₀ sf (.Assign [.Attribute (.Name sf p) n ap] value pos :: sts) ((n, f) :: ts) := .cons h (fun env _ => hsw env) hw ht hr
theorem inI_ (g : Gr G) (a : Addr) (n : Nat) (is : List Nat) (i₀ : Nat) (C : Addr) (sf : Str) {f : AEnv → Res Fl} {sts : List Stmt} {ts : List (Str × (AEnv → Res T))} (h : SPre G k (fnAt G.K a).scope sts (stmtsOf (fnAt G.K a)) f) (ht : STail G k (fnAt G.K a).scope C i₀ sf sts ts)
    (hbind : ∀ vs : List Value, vs.length = (paramsOf (fnAt G.K a)).length → bindArgs (fnAt G.K a) ⟨vs, []⟩ = pure ((paramsOf (fnAt G.K a)).zip vs)) (hn : (varNames (fnAt G.K a).scope).length = n := by kernel_rfl) (hi : idxsOf (varNames (fnAt G.K a).scope) (paramsOf (fnAt G.K a)) = is := by kernel_rfl) (hsf : (varNames (fnAt G.K a).scope)[i₀]? = some sf := by kernel_rfl)
    (hdb : (sf == ("__debug__" : Str)) = false := by kernel_rfl) (hcd : (sf == ("__classdict__" : Str)) = false := by kernel_rfl) (hp : W.plainOver G.K C = true := by kernel_rfl) (hh : (W.clsIn G.K C).any (·.hasDict) = true := by kernel_rfl)
    (hs : W.findIn G.K (.ref C) "__setattr__" = some (some (.builtin "object.__setattr__")) := by kernel_rfl) (hnd : nodupB (ts.map (·.1)) = true := by kernel_rfl) (hnl : Nat.ble ts.length 100 = true := by kernel_rfl)
    (hf : isFnAt G.K a = true := by kernel_rfl) (hc : W.codeIn G.K (fnAt G.K a).code (fnAt G.K a).qualname = true := by kernel_rfl) (hpl : plainFn (fnAt G.K a) = true := by kernel_rfl) :
    InitOK G (k + 1) (.ref a) C (ts.map (·.1)) (runIn n is i₀ f ts) := initI_ok g a n is i₀ C sf h ht hbind hn hi hsf hdb hcd hp hh hs hnd (Nat.le_of_ble_eq_true hnl) hf hc hpl
theorem sdM (i : Nat) {apos : Pos} {e1 e2 : Expr} {f g : AEnv → Res Bv} (h1 : SimB G k sc e1 f) (h2 : SimB G k sc e2 g) (hx : (varNames sc)[i]? = some x := by kernel_rfl) (hd : (x == ("__debug__" : Str)) = false := by kernel_rfl) (hn : (x == ("__classdict__" : Str)) = false := by kernel_rfl)
    (hu : ∀ env, backTo pos (starEach [e1, e2] env) = [(false, eval e1 env), (false, eval e2 env)] := by intro _; rfl) (hline : (apos.endLine == pos.line) = true := by rfl) : SimM G k sc (.Call (.Attribute (.Name x p) "setdefault" apos) [e1, e2] [] pos) (eSetDef i f g) := sim_setdefault h1 h2 hx hd hn hu hline
theorem rvI (g : Gr G) {tg e : Expr} {f : AEnv → Res T} (h : Sim G k sc e f) (he : W.nsIn G.K mainGlobals ("reversed" : Str) = some none := by kernel_rfl) (hx : sc.names.lookup ("reversed" : Str) = some .globalImplicit := by kernel_rfl) (hu : unstarred e = true := by kernel_rfl) : SimI G k sc tg (.Call (.Name "reversed" p) [e] [] pos) (eRev f) :=
  simI_rev (gB g (.type "reversed") he (by kernel_rfl) (by kernel_rfl) rfl hx (by kernel_rfl)) h hu
end
end Mine
end

section
set_option Elab.async false
set_option maxRecDepth 100000
namespace Mine
open PySem PySem.W PyProof.Rows
theorem ints_of_items {R : WRecords} : ∀ {xs : List WData}, WShape.hasItems R xs .int = true → ∃ ns : List Int, xs = ns.map .int
  | [], _ => ⟨[], rfl⟩
  | x :: xs, h => by
    rw [WShape.hasItems, Bool.and_eq_true_iff] at h
    obtain ⟨ns, rfl⟩ := ints_of_items h.2
    cases x with
    | int i => exact ⟨i :: ns, rfl⟩
    | _ => exact Bool.noConfusion (show false = true from h.1)
theorem law_args {l : OpenLaw} {args : List WData} {n : Nat} (hm : l.most = some n) (hb : l.bound = none) (h : l.row.toRowW.claim.pre args = true) : ∃ ns : List Int, args = [.list (ns.map .int)] ∧ ns.length ≤ n := by
  obtain ⟨h1, h2⟩ := pre_splitW h
  have e1 : l.row.toRowW.args = [.list .int] := rfl
  rw [e1] at h1
  obtain ⟨d, r, rfl, hd, hr⟩ := hasAllW_cons h1
  have hr0 : r = [] := by
    cases r with
    | nil => rfl
    | cons a b => exact Bool.noConfusion (show false = true from hr)
  subst hr0
  have hlist : ∃ xs, d = .list xs ∧ WShape.hasItems l.row.toRowW.records xs .int = true := by
    cases d with
    | list xs =>
      have h' : (WShape.hasItems l.row.toRowW.records xs .int || false) = true := hd
      rw [Bool.or_false] at h'
      exact ⟨xs, rfl, h'⟩
    | _ => exact Bool.noConfusion (show false = true from hd)
  obtain ⟨xs, rfl, hx⟩ := hlist
  obtain ⟨ns, rfl⟩ := ints_of_items hx
  refine ⟨ns, rfl, ?_⟩
  have e2 : l.row.toRowW.pre = .and (.not (.lt (.lit (.int n)) (.len (.arg 0)))) (.lit (.bool true)) := by
    show l.pre = _
    unfold OpenLaw.pre
    rw [hm, hb]
  rw [e2] at h2
  have h3 := (holds_andW h2).1
  by_cases hlt : (n : Int) < (ns.map WData.int).length
  · exfalso
    have key : WTm.holds l.row.toRowW.records (.not (.lt (.lit (.int n)) (.len (.arg 0)))) { args := [.list (ns.map .int)] } = (match (some (WData.bool (!(decide ((n : Int) < (ns.map WData.int).length)))) : Option WData) with | some (.bool true) => true | _ => false) := rfl
    rw [decide_eq_true hlt] at key
    exact Bool.noConfusion (key.symm.trans h3)
  · rw [List.length_map] at hlt; omega
theorem ints_reads {R : WRecords} {cl : Str → Option Addr} {S : Addr → Prop} {h : Heap} {ns : List Int} : ∀ {vs : List Value} {as : List Addr}, ReadsAllW R cl h vs (ns.map .int) as → RVs S h vs (ns.map .int) ∧ as = [] := by
  induction ns with
  | nil => intro vs as r; cases r; exact ⟨.nil, rfl⟩
  | cons n ns ih =>
    intro vs as r
    cases r with
    | cons r1 r2 =>
      obtain ⟨q, rfl⟩ := ih r2
      cases r1
      exact ⟨.cons (.int _ _) q, rfl⟩
theorem law_end {l : OpenLaw} {w : World} {s₁ : Shared} {mg mb : Str → Option Value} {K : Frag} {a : Addr} {k : Nat} {F : List D → FOut} {args : List WData} {vals : List Value} {as : List Addr} {R : WRecords} {cl cl' : Str → Option Addr} {mean : ExcName → Option Value} (hF : FnOK ⟨l.row.toRowW.prog, w, s₁.heap, mg, mb, K, true⟩ k (.ref a) F) (hk : k ≤ 500) (hg : s₁.gens = #[])
    {n : Nat} (hm : l.most = some n) (hb : l.bound = none) (hpre : l.row.toRowW.claim.pre args = true) (hrd : ReadsAllW R cl s₁.heap vals args as) (hlaw : ∀ ns : List Int, ns.length ≤ n → F [.list (ns.map .int)] = .ok (.sh (.bool true))) :
    wpAny (model l.row.toRowW.prog w) callerA (call (.ref a) vals) (fun v s' => GoodWG l.row.toRowW.claim cl' mean args s₁ (.ok (.ret v)) s') (fun e s' => GoodWG l.row.toRowW.claim cl' mean args s₁ (.error e) s') s₁ := by
  obtain ⟨ns, rfl, hn⟩ := law_args hm hb hpre
  cases hrd with
  | cons r1 r2 =>
    cases r2
    obtain ⟨b, vs, as', rfl, il, ri, _⟩ := readsW_list_inv r1
    obtain ⟨o, h1, h2, m, h3⟩ := il
    obtain ⟨q, _⟩ := ints_reads (S := fun x => x = b) ri
    refine wpAny_call ?_
    refine hF callerA [] (fun x => x = b) s₁ [.ref b] [.list (ns.map .int)] ?_ rfl (fun _ => rfl) (fun v e => by cases e) (fun env he => by cases he) (fun _ _ e => e) (fun x hx => ⟨o, by rw [hx]; exact h1⟩) (.cons (.list rfl h1 ⟨h2, .inr (List.all_eq_true.mpr fun d hd => by obtain ⟨i, _, rfl⟩ := List.mem_map.mp hd; rfl)⟩ h3 q) .nil) _ ?_
    · constructor
      · show 1 + claimMargin + k ≤ 900
        have : claimMargin = 300 := rfl
        omega
      · show 4 + 8 * k ≤ 9000
        omega
    · rw [hlaw ns hn]
      intro v h' tk S' kp hB _ _ _ ret
      cases ret
      refine ⟨.inl ⟨.bool true, .bool true, [], rfl, fun _ => rfl, .bool true, ?_, fun _ => ⟨.nil, fun _ hx => by cases hx⟩⟩, .of_keep hB, rfl, ?_⟩
      · show (WShape.has l.row.toRowW.records (.bool true) .bool && WTm.holds l.row.toRowW.records (.eq .res (.lit (.bool true))) { args := [.list (ns.map .int)], res := some (.bool true), after := [.list (ns.map .int)] }) = true
        have e1 : same (WData.bool true) (WData.bool true) = true := by first | rfl | exact same_self _ | decide | simp [same]
        have e2 : WTm.holds l.row.toRowW.records (.eq .res (.lit (.bool true))) { args := [.list (ns.map .int)], res := some (.bool true), after := [.list (ns.map .int)] } = (match (some (WData.bool (same (WData.bool true) (WData.bool true))) : Option WData) with | some (.bool true) => true | _ => false) := rfl
        rw [e1] at e2
        rw [e2]; rfl
      · show AllBare s₁.gens
        rw [hg]
        exact .of_eq rfl
end Mine
end

section
set_option Elab.async false
set_option maxRecDepth 100000
namespace Mine
open PySem
theorem compN_step {b : D → AEnv → Option AEnv} {t : AEnv → Res Bool} {f : AEnv → Res T} {ρ₀ : AEnv} {q : D → Bool} {g : D → D} : ∀ (ds acc : List D), (∀ d ∈ ds, ∃ ρ₁ ρ₂, b d ρ₀ = some ρ₁ ∧ t ρ₁ = .ok (q d) ρ₂ ∧ (q d = true → ∃ v ρ₃, f ρ₂ = .ok v ρ₃ ∧ v.val = g d)) → acc.length + ds.length ≤ 1000000 → compN b t f ρ₀ ds acc = some (acc ++ (ds.filter q).map g) := by
  intro ds
  induction ds with
  | nil => intro acc _ _; exact congrArg some (List.append_nil acc).symm
  | cons d ds ih =>
    intro acc h hl
    obtain ⟨ρ₁, ρ₂, h1, h2, h3⟩ := h d (.head _)
    rw [List.length_cons] at hl
    have ih := fun acc' => ih acc' fun e he => h e (.tail _ he)
    conv => lhs; whnf
    rw [h1]
    conv => lhs; whnf
    rw [h2]
    cases hq : q d with
    | false =>
      rw [List.filter_cons_of_neg (by rw [hq]; decide)]
      exact ih acc (by omega)
    | true =>
      obtain ⟨v, ρ₃, h4, h5⟩ := h3 hq
      rw [List.filter_cons_of_pos hq, List.map_cons, ← h5]
      conv => lhs; whnf
      rw [h4]
      refine (if_pos (by omega)).trans ((ih _ (by rw [List.length_append]; exact Nat.le_trans (Nat.le_of_eq (Nat.add_assoc _ 1 _)) (by rw [Nat.add_comm 1]; exact hl))).trans ?_)
      rw [List.append_assoc]; rfl
theorem compN_map {b : D → AEnv → Option AEnv} {f : AEnv → Res T} {ρ₀ : AEnv} {g : D → D} (ds : List D) (h : ∀ d ∈ ds, ∃ ρ₁ v ρ₃, b d ρ₀ = some ρ₁ ∧ f ρ₁ = .ok v ρ₃ ∧ v.val = g d) (hl : ds.length ≤ 1000000) : compN b eAll f ρ₀ ds [] = some (ds.map g) := by
  have := compN_step (b := b) (t := eAll) (f := f) (ρ₀ := ρ₀) (q := fun _ => true) (g := g) ds [] (fun d hd => by
    obtain ⟨ρ₁, v, ρ₃, h1, h2, h3⟩ := h d hd
    exact ⟨ρ₁, ρ₁, h1, rfl, fun _ => ⟨v, ρ₃, h2, h3⟩⟩) (by simpa using hl)
  rw [this, List.nil_append, List.filter_eq_self.mpr fun _ _ => rfl]
noncomputable def iL (ns : List Int) : List D := ns.map .int
noncomputable def nL (ns : List Nat) : List D := ns.map fun (n : Nat) => D.int n
noncomputable def isW : D → Bool
  | .int _ => true
  | _ => false
noncomputable def calm : D → Bool
  | .range .. => false
  | .exc _ => false
  | .glob _ => false
  | .dict .. => false
  | .obj .. => false
  | _ => true
theorem intsOf_iL (ns : List Int) : intsOf (iL ns) = some ns := by
  induction ns with
  | nil => rfl
  | cons n ns ih => exact congrArg (Option.map (n :: ·)) ih
theorem boolsOf_map (bs : List Bool) : boolsOf (bs.map .bool) = some bs := by
  induction bs with
  | nil => rfl
  | cons b bs ih => exact congrArg (Option.map (b :: ·)) ih
theorem toPys_cons {d : D} {ds : List D} {p : PyData} {ps : List PyData} (h1 : toPy d = some p) (h2 : toPys ds = some ps) : toPys (d :: ds) = some (p :: ps) := by
  conv => lhs; whnf
  rw [h1, h2]
theorem toPys_iL (ns : List Int) : toPys (iL ns) = some (ns.map .int) := by
  induction ns with
  | nil => rfl
  | cons n ns ih => exact toPys_cons rfl ih
theorem pyTup {ds : List D} {ps : List PyData} (h : toPys ds = some ps) : toPy (.tup ds) = some (.tuple ps) := congrArg (Option.map PyData.tuple) h
theorem pyList {ds : List D} {ps : List PyData} (h : toPys ds = some ps) : toPy (.list ds) = some (.list ps) := congrArg (Option.map PyData.list) h
theorem eqvAll_ints (a : List Int) : ∀ b : List Int, PyData.eqvAll (a.map .int) (b.map .int) = decide (a = b) := by
  induction a with
  | nil =>
    intro b
    cases b with
    | nil => rfl
    | cons y b => rfl
  | cons x a ih =>
    intro b
    cases b with
    | nil => rfl
    | cons y b =>
      show ((x == y) && PyData.eqvAll (a.map .int) (b.map .int)) = _
      rw [ih]
      by_cases h : x = y
      · subst h
        by_cases h2 : a = b
        · subst h2; rw [decide_eq_true rfl, decide_eq_true rfl, Bool.and_true]; exact beq_self_eq_true x
        · rw [decide_eq_false h2, decide_eq_false (fun q => h2 (List.cons.inj q).2), Bool.and_false]
      · rw [decide_eq_false (fun q => h (List.cons.inj q).1), beq_eq_false_iff_ne.mpr h, Bool.false_and]
theorem canLay_ints (a : List Int) : PyData.canLayAll0 (a.map .int) = true := by
  induction a with
  | nil => rfl
  | cons x a ih => exact ih
theorem depth_ints (a : List Int) : PyData.depthAll (a.map .int) ≤ 1 := by
  induction a with
  | nil => exact Nat.zero_le _
  | cons x a ih => exact Nat.max_le.mpr ⟨Nat.zero_le _, ih⟩
theorem shaped_list (a : List Int) : SeqAt.shaped (.list (a.map .int)) = true :=
  Bool.and_eq_true_iff.mpr ⟨canLay_ints a, decide_eq_true (Nat.le_trans (Nat.add_le_add_right (depth_ints a) 1) (by decide))⟩
theorem shaped_tup (a : List Int) : SeqAt.shaped (.tuple (a.map .int)) = true :=
  Bool.and_eq_true_iff.mpr ⟨canLay_ints a, decide_eq_true (Nat.le_trans (Nat.add_le_add_right (depth_ints a) 1) (by decide))⟩
noncomputable def eqB (a b : List Int) : Bool := decide (a = b)
theorem eqB_true {a b : List Int} : eqB a b = true ↔ a = b := decide_eq_true_iff
theorem eqB_false {a b : List Int} : eqB a b = false ↔ a ≠ b := decide_eq_false_iff_not
noncomputable def eqZ (a b : Int) : Bool := decide (a = b)
theorem eqZ_true {a b : Int} : eqZ a b = true ↔ a = b := decide_eq_true_iff
theorem eqZ_false {a b : Int} : eqZ a b = false ↔ a ≠ b := decide_eq_false_iff_not
theorem eqD_of {x y : D} {p q : PyData} {b : Bool} (h1 : toPy x = some p) (h2 : toPy y = some q) (h3 : SeqAt.shaped p = true) (h4 : SeqAt.shaped q = true) (h5 : PyData.eqv p q = b) : eqD x y = some b := by
  conv => lhs; whnf
  rw [h1, h2]
  conv => lhs; whnf
  rw [h3, h4, ← h5]; rfl
theorem eqI_of {x y : D} {b : Bool} (h : eqD x y = some b) : eqI x y = some (.sh (.bool b)) := congrArg (Option.map fun b => T.sh (.bool b)) h
theorem neI_of {x y : D} {b : Bool} (h : eqD x y = some b) : neI x y = some (.sh (.bool !b)) := congrArg (Option.map fun b => T.sh (.bool !b)) h
theorem eqD_lists (a b : List Int) : eqD (.list (iL a)) (.list (iL b)) = some (eqB a b) := eqD_of (pyList (toPys_iL a)) (pyList (toPys_iL b)) (shaped_list a) (shaped_list b) (eqvAll_ints a b)
theorem eqD_tups (a b : List Int) : eqD (.tup (iL a)) (.tup (iL b)) = some (eqB a b) := eqD_of (pyTup (toPys_iL a)) (pyTup (toPys_iL b)) (shaped_tup a) (shaped_tup b) (eqvAll_ints a b)
theorem eqI_list (a b : List Int) : eqI (.list (iL a)) (.list (iL b)) = some (.sh (.bool (eqB a b))) := eqI_of (eqD_lists a b)
theorem eqI_tup (a b : List Int) : eqI (.tup (iL a)) (.tup (iL b)) = some (.sh (.bool (eqB a b))) := eqI_of (eqD_tups a b)
theorem neI_tup (a b : List Int) : neI (.tup (iL a)) (.tup (iL b)) = some (.sh (.bool !(eqB a b))) := neI_of (eqD_tups a b)
theorem beq_eqZ (a b : Int) : (a == b) = eqZ a b := by
  by_cases h : a = b
  · rw [eqZ_true.mpr h]; exact beq_iff_eq.mpr h
  · rw [eqZ_false.mpr h]; exact beq_eq_false_iff_ne.mpr h
theorem eqD_int (a b : Int) : eqD (.int a) (.int b) = some (eqZ a b) := eqD_of rfl rfl rfl rfl (beq_eqZ a b)
theorem eqI_int (a b : Int) : eqI (.int a) (.int b) = some (.sh (.bool (eqZ a b))) := eqI_of (eqD_int a b)
noncomputable def rng (n : Nat) : List Int := (List.range n).map fun (i : Nat) => (i : Int)
theorem rng_length (n : Nat) : (rng n).length = n := by simp [rng]
theorem rangeL_rng (n : Nat) : rangeL 0 n 1 = iL (rng n) := by
  unfold rangeL rangeN iL rng
  rw [rangeSize_one]
  have : (if (0 : Int) < n then (n : Int) - 0 else 0).toNat = n := by split <;> omega
  rw [this]
  simp
theorem rangeFit_rng (n : Nat) (h : n ≤ 1000000) : rangeFit 0 n 1 = true := by
  unfold rangeFit
  rw [small_one (by omega) (by omega) (by omega) (by omega), rangeSize_one]
  simp only [Bool.true_and, Bool.and_eq_true, decide_eq_true_eq]
  constructor <;> split <;> omega
theorem sortI_perm (ns : List Int) : (sortI ns).Perm ns := List.mergeSort_perm ns _
theorem rng_sorted (n : Nat) : (rng n).Pairwise (· ≤ ·) := by
  unfold rng
  rw [List.pairwise_map]
  exact (List.pairwise_lt_range (n := n)).imp fun h => by omega
theorem sortI_rng {ns : List Int} {n : Nat} : sortI ns = rng n ↔ ns.Perm (rng n) := by
  constructor
  · intro h; rw [← h]; exact (sortI_perm ns).symm
  · intro h; exact (sort_unique h.symm (rng_sorted n)).symm
section
variable {f g : AEnv → Res Fl} {t : AEnv → Res Bool} {e : AEnv → Res T} {ρ ρ₁ : AEnv} {v : T} {C : PySem.Addr} {i : Nat}
end
end Mine
end

section
set_option Elab.async false
set_option maxRecDepth 100000
set_option linter.unusedSimpArgs false
namespace Mine
open PySem
set_option autoImplicit true
set_option relaxedAutoImplicit true
noncomputable def valK (r : Res T) : Res Bv := eVal (fun _ => r) []
theorem ValK.ok (h : T.val t = d) : valK (.ok t ρ) = .ok (.val d) ρ := by subst h; rfl
theorem ValK.exc : valK (.exc C ρ) = .exc C ρ := rfl
noncomputable def op1K (F : D → Option T) (r : Res Bv) : Res T := eOp1 F (fun _ => r) []
theorem Op1K.ok (h : Bv.get ρ a = some x) (h2 : F x = some t) : op1K F (.ok a ρ) = .ok t ρ := by conv => lhs; whnf; rw [h]; whnf; rw [h2]
noncomputable def op2L (F : D → D → Option T) (a : Bv) (r : Res Bv) : Res T := eOp2 F (fun ρ => .ok a ρ) (fun _ => r) []
theorem Op2L.ok (h : Bv.get ρ a = some x) (h2 : Bv.get ρ b = some y) (h3 : F x y = some t) : op2L F a (.ok b ρ) = .ok t ρ := by conv => lhs; whnf; rw [h, h2]; whnf; rw [h3]
noncomputable def op2K (F : D → D → Option T) (g : AEnv → Res Bv) (r : Res Bv) : Res T := eOp2 F (fun _ => r) g []
theorem Op2K.ok (h : g ρ = r) (h2 : op2L F a r = rT) : op2K F g (.ok a ρ) = rT := by subst h; exact h2
noncomputable def opNK (F : List D → Option T) (r : Res (List Bv)) : Res T := eOpN F (fun _ => r) []
theorem OpNK.ok (h : getAll ρ bs = some ds) (h2 : F ds = some t) : opNK F (.ok bs ρ) = .ok t ρ := by conv => lhs; whnf; rw [h]; whnf; rw [h2]
noncomputable def callK (F : List D → FOut) (r : Res (List Bv)) : Res T := eCall F (fun _ => r) []
theorem CallK.ok {o : FOut} (h : getAll ρ bs = some ds) (h2 : F ds = o) (h3 : callEnd bs ρ o = rT) : callK F (.ok bs ρ) = rT := by
  subst h2; subst h3; conv => lhs; whnf; rw [h]
noncomputable def consBL (b : Bv) (r : Res (List Bv)) : Res (List Bv) := eConsB (fun ρ => .ok b ρ) (fun _ => r) []
theorem ConsBL.ok : consBL b (.ok bs ρ) = .ok (b :: bs) ρ := rfl
noncomputable def consBK (g : AEnv → Res (List Bv)) (r : Res Bv) : Res (List Bv) := eConsB (fun _ => r) g []
theorem ConsBK.ok (h : g ρ = rL) (h2 : consBL b rL = rL') : consBK g (.ok b ρ) = rL' := by subst h; exact h2
noncomputable def consL (d : D) (r : Res (List D)) : Res (List D) := eCons (fun ρ => .ok (.sh d) ρ) (fun _ => r) []
theorem ConsL.ok : consL d (.ok ds ρ) = .ok (d :: ds) ρ := rfl
noncomputable def consK (g : AEnv → Res (List D)) (r : Res T) : Res (List D) := eCons (fun _ => r) g []
theorem ConsK.ok (h : T.val t = d) (h1 : g ρ = rD) (h2 : consL d rD = rD') : consK g (.ok t ρ) = rD' := by subst h; subst h1; exact h2
noncomputable def tupK (r : Res (List D)) : Res T := eTup (fun _ => r) []
theorem TupK.ok (h : List.length ds ≤ 1000000) : tupK (.ok ds ρ) = .ok (.sh (.tup ds)) ρ := if_pos h
noncomputable def lstK (r : Res (List D)) : Res T := eLst (fun _ => r) []
theorem LstK.ok (h : List.length ds ≤ 1000000) : lstK (.ok ds ρ) = .ok (.ow true (.list ds)) ρ := if_pos h
noncomputable def truthK (r : Res Bv) : Res Bool := eTruth (fun _ => r) []
theorem TruthK.ok (h : Bv.get ρ a = some (.bool c)) : truthK (.ok a ρ) = .ok c ρ := by
  conv => lhs; whnf; rw [h]
  rfl
noncomputable def notK (r : Res Bool) : Res Bool := eNot (fun _ => r) []
theorem NotK.t : notK (.ok true ρ) = .ok false ρ := rfl
theorem NotK.f : notK (.ok false ρ) = .ok true ρ := rfl
noncomputable def andK (g : AEnv → Res Bool) (r : Res Bool) : Res Bool := eAnd (fun _ => r) g []
theorem AndK.t (h : g ρ = rB) : andK g (.ok true ρ) = rB := h
theorem AndK.f : andK g (.ok false ρ) = .ok false ρ := rfl
noncomputable def orK (g : AEnv → Res Bool) (r : Res Bool) : Res Bool := eOr (fun _ => r) g []
theorem OrK.t : orK g (.ok true ρ) = .ok true ρ := rfl
theorem OrK.f (h : g ρ = rB) : orK g (.ok false ρ) = rB := h
noncomputable def test2L (F : D → D → Option T) (a : Bv) (r : Res Bv) : Res Bool := eTest2 F (fun ρ => .ok a ρ) (fun _ => r) []
theorem Test2L.ok (h : Bv.get ρ a = some x) (h2 : Bv.get ρ b = some y) (h3 : F x y = some (.sh (.bool c))) : test2L F a (.ok b ρ) = .ok c ρ := by conv => lhs; whnf; rw [h, h2]; whnf; rw [h3]
noncomputable def test2K (F : D → D → Option T) (g : AEnv → Res Bv) (r : Res Bv) : Res Bool := eTest2 F (fun _ => r) g []
theorem Test2K.ok (h : g ρ = r) (h2 : test2L F a r = rB) : test2K F g (.ok a ρ) = rB := by subst h; exact h2
noncomputable def chainN (F' : D → D → Option T) (b : Bv) (r : Res Bv) : Res Bool := test2L F' b r
theorem ChainN.ok (h : Bv.get ρ b = some y) (h2 : Bv.get ρ a = some z) (h3 : F' y z = some (.sh (.bool c))) : chainN F' b (.ok a ρ) = .ok c ρ := Test2L.ok h h2 h3
noncomputable def chainM (F' : D → D → Option T) (h : AEnv → Res Bv) (b : Bv) (ρ : AEnv) (c : Bool) : Res Bool := cond c (chainN F' b (h ρ)) (.ok false ρ)
theorem ChainM.t (h1 : h ρ = r) (h2 : chainN F' b r = rB) : chainM F' h b ρ true = rB := by subst h1; exact h2
theorem ChainM.f : chainM F' h b ρ false = .ok false ρ := rfl
noncomputable def chainL (F F' : D → D → Option T) (h : AEnv → Res Bv) (a : Bv) (r : Res Bv) : Res Bool := eChain F F' (fun ρ => .ok a ρ) (fun _ => r) h []
theorem ChainL.ok (h1 : Bv.get ρ a = some x) (h2 : Bv.get ρ b = some y) (h3 : F x y = some (.sh (.bool c))) (h4 : chainM F' h b ρ c = rB) : chainL F F' h a (.ok b ρ) = rB := by
  subst h4
  conv => lhs; whnf; rw [h1, h2]; whnf; rw [h3]
  cases c <;> rfl
noncomputable def chainK (F F' : D → D → Option T) (g h : AEnv → Res Bv) (r : Res Bv) : Res Bool := eChain F F' (fun _ => r) g h []
theorem ChainK.ok (h1 : g ρ = r) (h2 : chainL F F' h a r = rB) : chainK F F' g h (.ok a ρ) = rB := by subst h1; exact h2
noncomputable def boL (g : AEnv → Res T) (ρ : AEnv) (op : BoolOp) (c : Bool) : Res T := eBo op (fun _ => .ok (.val (.bool c)) ρ) g []
theorem BoL.andT (h : g ρ = rT) : boL g ρ .And true = rT := h
noncomputable def boK (op : BoolOp) (g : AEnv → Res T) (r : Res Bv) : Res T := eBo op (fun _ => r) g []
theorem BoK.ok (h : Bv.get ρ a = some (.bool c)) (h2 : boL g ρ op c = rT) : boK op g (.ok a ρ) = rT := by
  subst h2; conv => lhs; whnf; rw [h]
  rfl
noncomputable def itemsK (r : Res T) : Res (List D) := eItems (fun _ => r) []
theorem ItemsK.ok (h : T.val t = d) (h2 : itemsD d = some ds) : itemsK (.ok t ρ) = .ok ds ρ := by subst h; conv => lhs; whnf; rw [h2]
noncomputable def enumK (r : Res T) : Res (List D) := eEnum (fun _ => r) []
theorem EnumK.list (h : T.val t = .list ds) : enumK (.ok t ρ) = .ok (enumL ds) ρ := by conv => lhs; whnf; rw [h]
noncomputable def seqK (g : AEnv → Res Fl) (r : Res Fl) : Res Fl := sSeq (fun _ => r) g []
theorem SeqK.next (h : g ρ = s) : seqK g (.ok .next ρ) = s := h
theorem SeqK.ret : seqK g (.ok (.ret t) ρ) = .ok (.ret t) ρ := rfl
theorem SeqK.exc : seqK g (.exc C ρ) = .exc C ρ := rfl
noncomputable def ifK (f g : AEnv → Res Fl) (r : Res Bool) : Res Fl := sIf (fun _ => r) f g []
theorem IfK.t (h : p ρ = s) : ifK p q (.ok true ρ) = s := h
theorem IfK.f (h : q ρ = s) : ifK p q (.ok false ρ) = s := h
noncomputable def retK (r : Res T) : Res Fl := sRet (fun _ => r) []
theorem RetK.ok : retK (.ok t ρ) = .ok (.ret t) ρ := rfl
theorem RetK.exc : retK (.exc C ρ) = .exc C ρ := rfl
noncomputable def exprK (r : Res Bv) : Res Fl := sExpr (fun _ => r) []
theorem ExprK.ok : exprK (.ok a ρ) = .ok .next ρ := rfl
theorem ExprK.exc : exprK (.exc C ρ) = .exc C ρ := rfl
noncomputable def asgK (i : Nat) (r : Res T) : Res Fl := sAssign i (fun _ => r) []
theorem AsgK.ok (h : List.set ρ i (some t) = ρ') : asgK i (.ok t ρ) = .ok .next ρ' := by subst h; rfl
theorem AsgK.exc : asgK i (.exc C ρ) = .exc C ρ := rfl
noncomputable def forK (b : D → AEnv → Option AEnv) (body : AEnv → Res Fl) (r : Res (List D)) : Res Fl := sFor (fun _ => r) b body []
theorem ForK.ok (h : forN b body ds ρ = s) : forK b body (.ok ds ρ) = s := h
noncomputable def tryK (K : W.Frag) (C' : Addr) (i : Nat) (g : AEnv → Res Fl) (r : Res Fl) : Res Fl := sTry K C' i (fun _ => r) g []
theorem TryK.exc (h : (W.mroIn K C (.ref C') == some true) = true) (h2 : List.set ρ i (some (.sh (.exc C))) = ρ₁) (h3 : g ρ₁ = .ok fl ρ₂) (h4 : List.set ρ₂ i none = ρ₃) : tryK K C' i g (.exc C ρ) = .ok fl ρ₃ := by
  subst h2; subst h4
  have e : tryK K C' i g (.exc C ρ) = if (W.mroIn K C (.ref C') == some true) = true then (match g (ρ.set i (some (.sh (.exc C)))) with | .ok fl ρ₂ => .ok fl (ρ₂.set i none) | _ => .stuck) else .stuck := rfl
  rw [e, if_pos h, h3]
noncomputable def forL (b : D → AEnv → Option AEnv) (body : AEnv → Res Fl) (ds : List D) (r : Res Fl) : Res Fl := r.bind fun fl ρ₂ => match fl with
  | .next => forN b body ds ρ₂
  | .cont => forN b body ds ρ₂
  | .brk => .ok .next ρ₂
  | .ret t => .ok (.ret t) ρ₂
theorem ForL.next (h : forN b body ds ρ = s) : forL b body ds (.ok .next ρ) = s := h
theorem ForL.ret : forL b body ds (.ok (.ret t) ρ) = .ok (.ret t) ρ := rfl
section
variable {ρ ρ₁ ρ₂ ρ₃ ρ' : AEnv} {d x y : D} {m : Bool} {i n : Nat} {t t' : T} {b : Bv} {bs : List Bv} {ds ds' : List D} {u : Option T} {l l' : AEnv}
theorem v_sh : (T.sh d).val = d := rfl
theorem v_ow : (T.ow m d).val = d := rfl
theorem w_sh : (T.sh d).weak = .sh d := rfl
theorem set0 : List.set (u :: l) 0 v = v :: l := rfl
theorem setS (h : List.set l n v = l') : List.set (u :: l) (n + 1) v = u :: l' := by rw [List.set_cons_succ, h]
theorem look0 : (u :: l)[0]? = some u := rfl
theorem lookS {v : Option (Option T)} (h : l[n]? = v) : (u :: l)[n + 1]? = v := h
theorem g_val : Bv.get ρ (.val d) = some d := rfl
theorem tg_sh : (T.sh d).get = some d := rfl
theorem tg_ow : (T.ow m (.list ds)).get = some (.list ds) := rfl
theorem g_var (h : ρ[i]? = some (some t)) (h2 : t.get = some d) : Bv.get ρ (.var i) = some d := by
  conv => lhs; whnf; rw [h]
  exact h2
theorem ga_nil : getAll ρ [] = some [] := rfl
theorem ga_cons (h : b.get ρ = some d) (h2 : getAll ρ bs = some ds) : getAll ρ (b :: bs) = some (d :: ds) := by conv => lhs; whnf; rw [h, h2]
theorem ci_nil : capI ρ [] = some [] := rfl
theorem ci_none {r : List (Option Nat)} (h : capI ρ r = some l) : capI ρ (none :: r) = some (none :: l) := congrArg (Option.map (none :: ·)) h
theorem ci_some {r : List (Option Nat)} (h : ρ[i]? = some (some t)) (h2 : t.weak = t') (h3 : capI ρ r = some l) : capI ρ (some i :: r) = some (some t' :: l) := by subst h2; conv => lhs; whnf; rw [h]; whnf; rw [h3]
theorem own_of (h : ρ[i]? = some (some (.ow true (.list ds)))) (hl : ds.length ≤ 1000000) : ownList ρ i = some ds := by
  conv => lhs; whnf; rw [h]
  exact if_pos hl
theorem ce_ok (h : bs.all (isShared ρ) = true) : callEnd bs ρ (.ok t) = .ok t ρ := if_pos h
theorem ce_free (h : bs.all (isShared ρ) = false) (h2 : t.val = d) (h3 : listFree d = true) : callEnd bs ρ (.ok t) = .ok (.sh d) ρ := by subst h2; exact (if_neg (by rw [h]; decide)).trans (if_pos h3)
theorem ce_exc {C : Addr} : callEnd bs ρ (.exc C) = .exc C ρ := rfl
end
section
variable {ρ ρ₁ ρ₂ ρ₃ ρ' : AEnv} {d x y z : D} {i : Nat} {t : T} {a b : Bv} {bs : List Bv} {ds ds' : List D} {C : Addr} {c : Bool}
variable {f g h : AEnv → Res Bv} {fT gT : AEnv → Res T} {fa : AEnv → Res (List Bv)} {fd : AEnv → Res (List D)} {tb tc : AEnv → Res Bool} {r : Res Bv} {rT : Res T} {rB rB' : Res Bool} {rL rL' : Res (List Bv)} {rD rD' : Res (List D)}
theorem const_of : eConst d ρ = .ok (.sh d) ρ := rfl
theorem op_of (h : ρ[i]? = some (some t)) : eOp i ρ = .ok (.var i) ρ := by conv => lhs; whnf; rw [h]
theorem var_sh (h : ρ[i]? = some (some (.sh d))) : eVar i ρ = .ok (.sh d) ρ := by conv => lhs; whnf; rw [h]
theorem var_ow (h : ρ[i]? = some (some (.ow true (.list ds)))) (h2 : List.set ρ i (some (.sh (.list ds))) = ρ') : eVar i ρ = .ok (.sh (.list ds)) ρ' := by subst h2; conv => lhs; whnf; rw [h]
theorem val_of (h1 : fT ρ = rT) (h2 : valK rT = r) : eVal fT ρ = r := by subst h1; exact h2
theorem op1_of {F : D → Option T} (h1 : f ρ = r) (h2 : op1K F r = rT) : eOp1 F f ρ = rT := by subst h1; exact h2
theorem op2_of {F : D → D → Option T} (h1 : f ρ = r) (h2 : op2K F g r = rT) : eOp2 F f g ρ = rT := by subst h1; exact h2
theorem opN_of {F : List D → Option T} (h1 : fa ρ = rL) (h2 : opNK F rL = rT) : eOpN F fa ρ = rT := by subst h1; exact h2
theorem call_of {F : List D → FOut} (h1 : fa ρ = rL) (h2 : callK F rL = rT) : eCall F fa ρ = rT := by subst h1; exact h2
theorem nilB_of : eNilB ρ = .ok [] ρ := rfl
theorem consB_of (h1 : f ρ = r) (h2 : consBK fa r = rL) : eConsB f fa ρ = rL := by subst h1; exact h2
theorem nil_of : eNil ρ = .ok [] ρ := rfl
theorem cons_of (h1 : fT ρ = rT) (h2 : consK fd rT = rD) : eCons fT fd ρ = rD := by subst h1; exact h2
theorem tup_of (h1 : fd ρ = rD) (h2 : tupK rD = rT) : eTup fd ρ = rT := by subst h1; exact h2
theorem lst_of (h1 : fd ρ = rD) (h2 : lstK rD = rT) : eLst fd ρ = rT := by subst h1; exact h2
theorem truth_of (h1 : f ρ = r) (h2 : truthK r = rB) : eTruth f ρ = rB := by subst h1; exact h2
theorem not_of (h1 : tb ρ = rB) (h2 : notK rB = rB') : eNot tb ρ = rB' := by subst h1; exact h2
theorem andNil_of : eAndNil ρ = .ok true ρ := rfl
theorem orNil_of : eOrNil ρ = .ok false ρ := rfl
theorem and_of (h1 : tb ρ = rB) (h2 : andK tc rB = rB') : eAnd tb tc ρ = rB' := by subst h1; exact h2
theorem or_of (h1 : tb ρ = rB) (h2 : orK tc rB = rB') : eOr tb tc ρ = rB' := by subst h1; exact h2
theorem test2_of {F : D → D → Option T} (h1 : f ρ = r) (h2 : test2K F g r = rB) : eTest2 F f g ρ = rB := by subst h1; exact h2
theorem chain_of {F F' : D → D → Option T} (h1 : f ρ = r) (h2 : chainK F F' g h r = rB) : eChain F F' f g h ρ = rB := by subst h1; exact h2
theorem bo_of {op : BoolOp} (h1 : f ρ = r) (h2 : boK op gT r = rT) : eBo op f gT ρ = rT := by subst h1; exact h2
theorem noPart_of : eNoPart ρ = .ok none ρ := rfl
theorem part_of {j : Int} (h1 : f ρ = .ok a ρ₁) (h2 : a.get ρ₁ = some (.int j)) : ePart f ρ = .ok (some j) ρ₁ := by conv => lhs; whnf; rw [h1]; whnf; rw [h2]
theorem slice_of {p q : AEnv → Res (Option Int)} {lo hi : Option Int} (h1 : f ρ = .ok a ρ₁) (h2 : p ρ₁ = .ok lo ρ₂) (h3 : q ρ₂ = .ok hi ρ₃) (h4 : a.get ρ₃ = some x) (h5 : sliceI x lo hi = some t) : eSlice f p q ρ = .ok t ρ₃ := by conv => lhs; whnf; rw [h1]; whnf; rw [h2]; whnf; rw [h3]; whnf; rw [h4]; whnf; rw [h5]
theorem items_of (h1 : fT ρ = rT) (h2 : itemsK rT = rD) : eItems fT ρ = rD := by subst h1; exact h2
theorem enum_of (h1 : fT ρ = rT) (h2 : enumK rT = rD) : eEnum fT ρ = rD := by subst h1; exact h2
theorem compI_of {cap : List (Option Nat)} {bd : D → AEnv → Option AEnv} {l ρ₀ : AEnv} {out : List D} (h1 : capI ρ cap = some l) (h2 : fd ρ = .ok ds ρ₁) (h3 : capI ρ₁ cap = some ρ₀) (h4 : compN bd tb fT ρ₀ ds [] = some out) : eCompI cap fd bd tb fT ρ = .ok (.ow true (.list out)) ρ₁ := by conv => lhs; whnf; rw [h1]; whnf; rw [h2]; whnf; rw [h3]; whnf; rw [h4]
theorem append_of (h1 : ownList ρ i = some ds) (h2 : fT ρ = .ok t ρ₁) (h3 : ownList ρ₁ i = some ds') (h4 : t.val = d) (h5 : List.set ρ₁ i (some (.ow true (.list (ds' ++ [d])))) = ρ') : eAppend i fT ρ = .ok (.sh .none) ρ' := by subst h4; subst h5; conv => lhs; whnf; rw [h1]; whnf; rw [h2]; whnf; rw [h3]
theorem pop_of {j : Int} (h1 : ownList ρ i = some ds) (h2 : f ρ = .ok b ρ₁) (h3 : b.get ρ₁ = some (.int j)) (h4 : ownList ρ₁ i = some ds') (h5 : 0 ≤ j ∧ j < ds'.length) (h6 : ds'[j.toNat]? = some d) (h7 : List.set ρ₁ i (some (.ow true (.list (ds'.eraseIdx j.toNat)))) = ρ') : ePop i f ρ = .ok (.sh d) ρ' := by
  subst h7
  conv => lhs; whnf; rw [h1]; whnf; rw [h2]; whnf; rw [h3, h4]
  refine (if_pos h5).trans ?_
  conv => lhs; rw [h6]
variable {sf sg : AEnv → Res Fl} {s s' : Res Fl} {fl : Fl}
theorem sNil_of : sNil ρ = .ok .next ρ := rfl
theorem retVar_sh (h : ρ[i]? = some (some (.sh d))) : sRetVar i ρ = .ok (.ret (.sh d)) ρ := by conv => lhs; whnf; rw [h]
theorem retVar_ow (h : ρ[i]? = some (some (.ow true (.list ds)))) : sRetVar i ρ = .ok (.ret (.ow true (.list ds))) ρ := by conv => lhs; whnf; rw [h]
theorem seq_of (h1 : sf ρ = s) (h2 : seqK sg s = s') : sSeq sf sg ρ = s' := by subst h1; exact h2
theorem if_of (h1 : tb ρ = rB) (h2 : ifK sf sg rB = s) : sIf tb sf sg ρ = s := by subst h1; exact h2
theorem ret_of (h1 : fT ρ = rT) (h2 : retK rT = s) : sRet fT ρ = s := by subst h1; exact h2
theorem expr_of (h1 : f ρ = r) (h2 : exprK r = s) : sExpr f ρ = s := by subst h1; exact h2
theorem asg_of (h1 : fT ρ = rT) (h2 : asgK i rT = s) : sAssign i fT ρ = s := by subst h1; exact h2
theorem raise_of (h1 : fd ρ = .ok ds ρ₁) (h2 : ds.length ≤ 1000) : sRaise C fd ρ = .exc C ρ₁ := by
  conv => lhs; whnf; rw [h1]
  exact if_pos h2
theorem for_of {b : D → AEnv → Option AEnv} (h1 : fd ρ = rD) (h2 : forK b sf rD = s) : sFor fd b sf ρ = s := by subst h1; exact h2
theorem try_of {K : W.Frag} {C' : Addr} (h1 : sf ρ = s) (h2 : tryK K C' i sg s = s') : sTry K C' i sf sg ρ = s' := by subst h1; exact h2
theorem setItem_of {j : Int} (h1 : fT ρ = .ok t ρ₁) (h2 : ownList ρ₁ i = some ds) (h3 : f ρ₁ = .ok b ρ₂) (h4 : b.get ρ₂ = some (.int j)) (h5 : ownList ρ₂ i = some ds') (h6 : 0 ≤ j ∧ j < ds'.length) (h7 : t.val = d) (h8 : List.set ρ₂ i (some (.ow true (.list (ds'.set j.toNat d)))) = ρ') : sSetItem i f fT ρ = .ok .next ρ' := by
  subst h7; subst h8
  conv => lhs; whnf; rw [h1]; whnf; rw [h2]; whnf; rw [h3]; whnf; rw [h4, h5]
  exact if_pos h6
theorem run_of {n : Nat} {is : List Nat} {o : FOut} (ρ : AEnv) (hl : ds.length = is.length) (hi : initI n is ds = ρ) (h : sf ρ = s) (ho : finF s = o) : runI n is sf ds = o := by subst hi; subst h; subst ho; exact if_pos hl
theorem fin_ret : finF (.ok (.ret t) ρ) = .ok t := rfl
theorem fin_next : finF (.ok .next ρ) = .ok (.sh .none) := rfl
theorem fin_exc : finF (.exc C ρ) = .exc C := rfl
theorem for_cons {b : D → AEnv → Option AEnv} (h1 : b d ρ = some ρ₁) (h2 : sf ρ₁ = s) (h3 : forL b sf ds s = s') : forN b sf (d :: ds) ρ = s' := by
  subst h2; subst h3; conv => lhs; whnf; rw [h1]
  rfl
theorem bName_of (h : List.set ρ i (some (.sh d)) = ρ') : bName i d ρ = some ρ' := congrArg some h
end
theorem len0 {α : Type} {n : Nat} : List.length ([] : List α) ≤ n := Nat.zero_le _
theorem lenC {α : Type} {n : Nat} {a : α} {l : List α} (h : l.length ≤ n) : (a :: l).length ≤ n + 1 := Nat.succ_le_succ h
theorem modI_of {a b : Int} (h : b ≠ 0) : modI (.int a) (.int b) = some (.sh (.int (a.fmod b))) := if_pos h
theorem divI_of {a b : Int} (h : b ≠ 0 ∧ b.natAbs < 1073741824) : divI (.int a) (.int b) = some (.sh (.int (a.fdiv b))) := if_pos h
theorem mulD_of {a b : Int} (h : (small a || small b) = true) : mulD (.int a) (.int b) = some (.sh (.int (a * b))) := if_pos h
theorem lenI_tup {ds : List D} (h : ds.length ≤ 1000000) : lenI [.tup ds] = some (.sh (.int ds.length)) := if_pos h
theorem lenI_list {ds : List D} (h : ds.length ≤ 1000000) : lenI [.list ds] = some (.sh (.int ds.length)) := if_pos h
theorem leI_t {a b : Int} (h : a ≤ b) : leI (.int a) (.int b) = some (.sh (.bool true)) := congrArg (fun b => some (T.sh (.bool b))) (decide_eq_true h)
theorem leI_f {a b : Int} (h : ¬ a ≤ b) : leI (.int a) (.int b) = some (.sh (.bool false)) := congrArg (fun b => some (T.sh (.bool b))) (decide_eq_false h)
theorem ltI_t {a b : Int} (h : a < b) : ltI (.int a) (.int b) = some (.sh (.bool true)) := congrArg (fun b => some (T.sh (.bool b))) (decide_eq_true h)
theorem ltI_f {a b : Int} (h : ¬ a < b) : ltI (.int a) (.int b) = some (.sh (.bool false)) := congrArg (fun b => some (T.sh (.bool b))) (decide_eq_false h)
theorem eqI_t (a : Int) : eqI (.int a) (.int a) = some (.sh (.bool true)) := by rw [eqI_int, eqZ_true.mpr rfl]
theorem eqI_f {a b : Int} (h : a ≠ b) : eqI (.int a) (.int b) = some (.sh (.bool false)) := by rw [eqI_int, eqZ_false.mpr h]
theorem neI_int (a b : Int) : neI (.int a) (.int b) = some (.sh (.bool !(eqZ a b))) := neI_of (eqD_int a b)
theorem neI_t {a b : Int} (h : a ≠ b) : neI (.int a) (.int b) = some (.sh (.bool true)) := by rw [neI_int, eqZ_false.mpr h]; rfl
theorem neI_f (a : Int) : neI (.int a) (.int a) = some (.sh (.bool false)) := by rw [neI_int, eqZ_true.mpr rfl]; rfl
theorem idxD_nat {ds : List D} {i : Int} (h0 : 0 ≤ i) (h1 : i < 2 ^ 63) : idxD ds i = ds[i.toNat]? := (if_pos h0).trans (if_pos h1)
theorem idxI_tup {ds : List D} {i : Int} {d : D} (h0 : 0 ≤ i) (h1 : i < 2 ^ 63) (h : ds[i.toNat]? = some d) : idxI (.tup ds) (.int i) = some (.sh d) := congrArg (Option.map T.sh) ((idxD_nat h0 h1).trans h)
theorem idxI_list {ds : List D} {i : Int} {d : D} (h0 : 0 ≤ i) (h1 : i < 2 ^ 63) (h : ds[i.toNat]? = some d) : idxI (.list ds) (.int i) = some (.sh d) := congrArg (Option.map T.sh) ((idxD_nat h0 h1).trans h)
theorem forN_ex {b : D → AEnv → Option AEnv} {sf : AEnv → Res Fl} (P : AEnv → List D → Prop) (hs : ∀ ρ d ds, P ρ (d :: ds) → ∃ ρ₁ ρ₂, b d ρ = some ρ₁ ∧ sf ρ₁ = .ok .next ρ₂ ∧ P ρ₂ ds) : ∀ (ds : List D) (ρ : AEnv), P ρ ds → ∃ ρ', forN b sf ds ρ = .ok .next ρ' ∧ P ρ' []
  | [], ρ, hp => ⟨ρ, rfl, hp⟩
  | d :: ds, ρ, hp => by
    obtain ⟨ρ₁, ρ₂, h1, h2, h3⟩ := hs ρ d ds hp
    obtain ⟨ρ', h4, h5⟩ := forN_ex P hs ds ρ₂ h3
    exact ⟨ρ', for_cons h1 h2 (ForL.next h4), h5⟩
theorem ix0 {x : D} {l : List D} : idxI (.tup (x :: l)) (.int 0) = some (.sh x) := idxI_tup (Int.le_refl _) (by decide) rfl
theorem ix1 {x y : D} {l : List D} : idxI (.tup (x :: y :: l)) (.int 1) = some (.sh y) := idxI_tup (by decide) (by decide) rfl
theorem il0 {x : D} {l : List D} : idxI (.list (x :: l)) (.int 0) = some (.sh x) := idxI_list (Int.le_refl _) (by decide) rfl
theorem small_of {b : Int} (h : b.natAbs < 2 ^ 63) : small b = true := decide_eq_true h
theorem cut_to {ds : List D} {p : Nat} (h : p ≤ ds.length) : cutD ds none (some (p : Int)) = ds.take p := by
  unfold cutD
  simp only [Option.elim, List.drop_zero, clipAt_nat, Nat.sub_zero, Nat.min_eq_left h]
theorem cut_from {ds : List D} {p : Nat} (h : p ≤ ds.length) : cutD ds (some (p : Int)) none = ds.drop p := by
  unfold cutD
  simp only [Option.elim, clipAt_nat, Nat.min_eq_left h]
  exact List.take_of_length_le (by rw [List.length_drop]; omega)
noncomputable def Turn (P : AEnv → Prop) (R : Res Fl → Prop) : Res Fl → Prop
  | .ok .next ρ => P ρ
  | .ok .cont ρ => P ρ
  | .ok .brk ρ => R (.ok .next ρ)
  | .ok (.ret t) ρ => R (.ok (.ret t) ρ)
  | .exc C ρ => R (.exc C ρ)
  | .stuck => False
theorem while_ex {t : AEnv → Res Bool} {b : AEnv → Res Fl} (P : Nat → AEnv → Prop) (R : Res Fl → Prop) (hs : ∀ m ρ, P m ρ → (∃ ρ₁, t ρ = .ok false ρ₁ ∧ R (.ok .next ρ₁)) ∨ ∃ ρ₁ r, t ρ = .ok true ρ₁ ∧ b ρ₁ = r ∧ Turn (fun ρ' => ∃ m', m' < m ∧ P m' ρ') R r) : ∀ (n m : Nat) (ρ : AEnv), P m ρ → m < n → ∃ r, sWhile n t b ρ = r ∧ R r
  | 0, _, _, _, h => absurd h (Nat.not_lt_zero _)
  | n + 1, m, ρ, hp, hm => by
    rcases hs m ρ hp with ⟨ρ₁, h1, h2⟩ | ⟨ρ₁, r, h1, h2, h3⟩
    · refine ⟨_, ?_, h2⟩
      conv => lhs; whnf; rw [h1]
      rfl
    · have key : ∀ ρ₂, (∃ m', m' < m ∧ P m' ρ₂) → ∃ r, whileN t b n ρ₂ = r ∧ R r := fun ρ₂ ⟨m', h4, h5⟩ => while_ex P R hs n m' ρ₂ h5 (by omega)
      have e : sWhile (n + 1) t b ρ = ((t ρ).bind fun c ρ₁ => if c then (b ρ₁).bind fun fl ρ₂ => (match fl with | .next => whileN t b n ρ₂ | .cont => whileN t b n ρ₂ | .brk => .ok .next ρ₂ | .ret t => .ok (.ret t) ρ₂) else .ok .next ρ₁) := rfl
      rw [e, h1]
      show ∃ r, ((b ρ₁).bind fun fl ρ₂ => (match fl with | .next => whileN t b n ρ₂ | .cont => whileN t b n ρ₂ | .brk => .ok .next ρ₂ | .ret t => .ok (.ret t) ρ₂)) = r ∧ R r
      rw [h2]
      cases r with
      | stuck => exact h3.elim
      | exc C ρ₂ => exact ⟨_, rfl, h3⟩
      | ok fl ρ₂ =>
        cases fl with
        | next => exact key _ h3
        | cont => exact key _ h3
        | brk => exact ⟨_, rfl, h3⟩
        | ret v => exact ⟨_, rfl, h3⟩
theorem for_ex {b : D → AEnv → Option AEnv} {sf : AEnv → Res Fl} (P : AEnv → List D → Prop) (R : Res Fl → Prop) (h0 : ∀ ρ, P ρ [] → R (.ok .next ρ)) (hs : ∀ ρ d ds, P ρ (d :: ds) → ∃ ρ₁ r, b d ρ = some ρ₁ ∧ sf ρ₁ = r ∧ Turn (fun ρ' => P ρ' ds) R r) : ∀ (ds : List D) (ρ : AEnv), P ρ ds → ∃ r, forN b sf ds ρ = r ∧ R r
  | [], ρ, hp => ⟨_, rfl, h0 ρ hp⟩
  | d :: ds, ρ, hp => by
    obtain ⟨ρ₁, r, h1, h2, h3⟩ := hs ρ d ds hp
    have e : forN b sf (d :: ds) ρ = forL b sf ds r := for_cons h1 h2 rfl
    rw [e]
    cases r with
    | stuck => exact h3.elim
    | exc C ρ₂ => exact ⟨_, rfl, h3⟩
    | ok fl ρ₂ =>
      cases fl with
      | next => exact for_ex P R h0 hs ds _ h3
      | cont => exact for_ex P R h0 hs ds _ h3
      | brk => exact ⟨_, rfl, h3⟩
      | ret v => exact ⟨_, rfl, h3⟩
theorem gtI_t {a b : Int} (h : b < a) : gtI (.int a) (.int b) = some (.sh (.bool true)) := congrArg (fun b => some (T.sh (.bool b))) (decide_eq_true h)
theorem gtI_f {a b : Int} (h : ¬ b < a) : gtI (.int a) (.int b) = some (.sh (.bool false)) := congrArg (fun b => some (T.sh (.bool b))) (decide_eq_false h)
theorem nat63 {p : Nat} (h : p ≤ 1000) : (0 : Int) ≤ (p : Int) ∧ (p : Int) < 2 ^ 63 := by omega
theorem idxN_list {ds : List D} {p : Nat} {d : D} (hp : p ≤ 1000) (h : ds[p]? = some d) : idxI (.list ds) (.int (p : Int)) = some (.sh d) := idxI_list (nat63 hp).1 (nat63 hp).2 h
theorem idxN_tup {ds : List D} {p : Nat} {d : D} (hp : p ≤ 1000) (h : ds[p]? = some d) : idxI (.tup ds) (.int (p : Int)) = some (.sh d) := idxI_tup (nat63 hp).1 (nat63 hp).2 h
theorem big12 {n : Nat} (h : n ≤ 12) : n ≤ 1000000 := Nat.le_trans h (by decide)
theorem big12' {n : Nat} (h : n ≤ 12) : n ≤ 1000 := Nat.le_trans h (by decide)
theorem addD_l {xs ys : List D} (h : xs.length + ys.length ≤ 1000000) : addD (.list xs) (.list ys) = some (.ow true (.list (xs ++ ys))) := if_pos h
theorem addD_t {xs ys : List D} (h : xs.length + ys.length ≤ 1000000) : addD (.tup xs) (.tup ys) = some (.sh (.tup (xs ++ ys))) := if_pos h
theorem listI_t {ds : List D} (h : ds.length ≤ 1000000) : listI [.tup ds] = some (.ow true (.list ds)) := if_pos h
theorem listI_l {ds : List D} (h : ds.length ≤ 1000000) : listI [.list ds] = some (.ow true (.list ds)) := if_pos h
theorem listI_r {lo hi st : Int} (h : rangeFit lo hi st = true) : listI [.range lo hi st] = some (.ow true (.list (rangeL lo hi st))) := if_pos h
theorem tupleI_l {ds : List D} (h : ds.length ≤ 1000000) : tupleI [.list ds] = some (.sh (.tup ds)) := if_pos h
theorem tupleI_r {lo hi st : Int} (h : rangeFit lo hi st = true) : tupleI [.range lo hi st] = some (.sh (.tup (rangeL lo hi st))) := if_pos h
theorem itemsD_r {lo hi st : Int} (h : rangeFit lo hi st = true) : itemsD (.range lo hi st) = some (rangeL lo hi st) := if_pos h
theorem sliceI_l {ds : List D} {lo hi : Option Int} (h : ds.length ≤ 1000000) : sliceI (.list ds) lo hi = some (.ow true (.list (cutD ds lo hi))) := if_pos h
theorem sliceI_t {ds : List D} {lo hi : Option Int} (h : ds.length ≤ 1000000) : sliceI (.tup ds) lo hi = some (.sh (.tup (cutD ds lo hi))) := if_pos h
theorem allI_of {ds : List D} {bs : List Bool} (h : boolsOf ds = some bs) : allI [.list ds] = some (.sh (.bool (bs.all id))) := congrArg (Option.map fun (bs : List Bool) => T.sh (.bool (bs.all id))) h
theorem sortedI_t {ds : List D} {ns : List Int} (h : intsOf ds = some ns) (hl : ns.length < 64) : sortedI [.tup ds] = some (.ow true (.list ((sortI ns).map .int))) := (congrArg (fun (o : Option (List Int)) => Option.bind o fun (ns : List Int) => if ns.length < 64 then some (T.ow true (.list ((sortI ns).map .int))) else none) h).trans (if_pos hl)
theorem idxI_last {ds : List D} {d : D} (hl : ds.length ≤ 1000) : idxI (.list (ds ++ [d])) (.int (-1)) = some (.sh d) := by
  have hn : (ds ++ [d]).length = ds.length + 1 := List.length_append
  have e : idxD (ds ++ [d]) (-1) = (ds ++ [d])[((-1 : Int) + (ds ++ [d]).length).toNat]? := (if_neg (by decide)).trans (if_pos ⟨by decide, by rw [hn]; omega⟩)
  rw [hn, show ((-1 : Int) + ((ds.length + 1 : Nat) : Int)).toNat = ds.length by omega, List.getElem?_append_right (Nat.le_refl _), Nat.sub_self] at e
  exact congrArg (Option.map T.sh) e
theorem eqD_told (x y : Str) (hx : PyData.strOk x = true) (hy : PyData.strOk y = true) : eqD (.list [.str y, .str x]) (.list [.str y, .str x]) = some true := by
  have hs : SeqAt.shaped (.list [.str y, .str x]) = true := Bool.and_eq_true_iff.mpr ⟨by show (PyData.strOk y && (PyData.strOk x && true)) = true; rw [hx, hy]; rfl, rfl⟩
  refine eqD_of rfl rfl hs hs ?_
  show ((y == y) && ((x == x) && true)) = true
  rw [beq_self_eq_true, beq_self_eq_true]; rfl
end Mine
end

section
set_option Elab.async false
set_option maxRecDepth 100000
namespace Mine
open PySem
noncomputable def mtdK (i : Nat) (F : List D → FOut) (r : Res (List Bv)) : Res T := r.bind fun bs ρ₁ => match getAll ρ₁ (.var i :: bs) with
  | some ds => callEnd (.var i :: bs) ρ₁ (F ds)
  | none => .stuck
theorem MtdK.ok {i : Nat} {F : List D → FOut} {o : FOut} {ρ : AEnv} {bs : List Bv} {ds : List D} {rT : Res T} (h : getAll ρ (.var i :: bs) = some ds) (h2 : F ds = o) (h3 : callEnd (.var i :: bs) ρ o = rT) : mtdK i F (.ok bs ρ) = rT := by
  subst h2; subst h3; conv => lhs; whnf; rw [h]
section
variable {ρ ρ₁ ρ₂ ρ' : AEnv} {d y z : D} {i j : Nat} {b c : Bv} {bs : List Bv} {ds es : List D} {C : Addr} {n : Str} {ns : List Str} {kk : List Int} {ks : List (List Int)} {fa : AEnv → Res (List Bv)} {f g : AEnv → Res Bv} {fT gT : AEnv → Res T} {rL : Res (List Bv)} {rT : Res T} {p p' : List (List Int) × List D}
theorem attr_of (h : ρ[i]? = some (some (.sh (.obj C ns ds)))) (h2 : attrOf n ns ds = some d) (h3 : notGlob d = true) : eAttr C n i ρ = .ok (.sh d) ρ := by
  conv => lhs; whnf; rw [h]
  refine (if_pos rfl).trans ?_
  conv => lhs; rw [h2]
  exact if_pos h3
theorem mtd_of {F : List D → FOut} (h : ρ[i]? = some (some (.sh (.obj C ns es)))) (hn : ns.contains n = false) (h1 : fa ρ = rL) (h2 : mtdK i F rL = rT) : eMtd C n i F fa ρ = rT := by
  subst h1; subst h2
  conv => lhs; whnf; rw [h]
  exact if_pos ⟨rfl, fun q => by rw [List.contains_iff_mem.mpr q] at hn; cases hn⟩
theorem make_of {I : Addr → List D → IOut} (h1 : fa ρ = .ok bs ρ₁) (h2 : getAll ρ₁ bs = some ds) (h3 : bs.all (isShared ρ₁) = true) (h4 : allX I ds = .ok es) : eMake C ns I fa ρ = .ok (.sh (.obj C ns es)) ρ₁ := by
  conv => lhs; whnf; rw [h1]; whnf; rw [h2]
  refine (if_pos h3).trans ?_
  conv => lhs; rw [h4]
theorem newD_of (h : List.set ρ i (some (.ow true (.dict [] []))) = ρ') : sNewD i ρ = .ok .next ρ' := congrArg (Res.ok Fl.next) h
theorem dAt_of {m : Bool} (h : ρ[i]? = some (some (.ow m (.dict ks ds)))) : dictAt ρ i = some (ks, ds) := by conv => lhs; whnf; rw [h]
theorem dOwn_of (h : ρ[i]? = some (some (.ow true (.dict ks ds)))) (hl : ks.length ≤ 1000000) : dictOwn ρ i = some (ks, ds) := by
  conv => lhs; whnf; rw [h]
  exact if_pos hl
theorem tInD_of {neg r : Bool} (h1 : f ρ = .ok b ρ₁) (h2 : b.get ρ₁ = some y) (h3 : dictAt ρ₁ i = some (ks, ds)) (h4 : asRow y = some kk) (h5 : ((keyAt kk ks).isSome != neg) = r) : tInD neg f i ρ = .ok r ρ₁ := by subst h5; conv => lhs; whnf; rw [h1]; whnf; rw [h2, h3]; whnf; rw [h4]
theorem getD_of (h0 : dictAt ρ i = some p) (h1 : f ρ = .ok b ρ₁) (h2 : b.get ρ₁ = some y) (h3 : dictAt ρ₁ i = some (ks, ds)) (h4 : asRow y = some kk) (h5 : keyAt kk ks = some j) (h6 : ds[j]? = some d) : eGetD i f ρ = .ok (.sh d) ρ₁ := by conv => lhs; whnf; rw [h0]; whnf; rw [h1]; whnf; rw [h2, h3]; whnf; rw [h4]; whnf; rw [h5]; whnf; rw [h6]
theorem setDef_new (h0 : dictOwn ρ i = some p) (h1 : f ρ = .ok b ρ₁) (h2 : g ρ₁ = .ok c ρ₂) (h3 : b.get ρ₂ = some y) (h4 : c.get ρ₂ = some z) (h5 : isShared ρ₂ c = true) (h6 : dictOwn ρ₂ i = some (ks, ds)) (h7 : asRow y = some kk) (h8 : keyAt kk ks = none)
    (h9 : List.set ρ₂ i (some (.ow true (.dict (ks ++ [kk]) (ds ++ [z])))) = ρ') : eSetDef i f g ρ = .ok (.sh z) ρ' := by subst h9; conv => lhs; whnf; rw [h0]; whnf; rw [h1]; whnf; rw [h2]; whnf; rw [h3, h4, h5, h6]; whnf; rw [h7]; whnf; rw [h8]
theorem setDef_old (h0 : dictOwn ρ i = some p) (h1 : f ρ = .ok b ρ₁) (h2 : g ρ₁ = .ok c ρ₂) (h3 : b.get ρ₂ = some y) (h4 : c.get ρ₂ = some z) (h5 : isShared ρ₂ c = true) (h6 : dictOwn ρ₂ i = some (ks, ds)) (h7 : asRow y = some kk) (h8 : keyAt kk ks = some j) (h9 : ds[j]? = some d) : eSetDef i f g ρ = .ok (.sh d) ρ₂ := by conv => lhs; whnf; rw [h0]; whnf; rw [h1]; whnf; rw [h2]; whnf; rw [h3, h4, h5, h6]; whnf; rw [h7]; whnf; rw [h8]; whnf; rw [h9]
theorem rev_of {t : T} (h1 : fT ρ = .ok t ρ₁) (h2 : t.val = .list ds) : eRev fT ρ = .ok ds.reverse ρ₁ := by conv => lhs; whnf; rw [h1]; whnf; rw [h2]
theorem methL_of {F : List D → Option T} {t : T} (h1 : f ρ = .ok b ρ₁) (h2 : b.get ρ₁ = some (.list ds)) (hb : ds.all isIntD = false) (h3 : fa ρ₁ = .ok bs ρ₂) (h4 : getAll ρ₂ (b :: bs) = some es) (h5 : F es = some t) : eMethL F f fa ρ = .ok t ρ₂ := by
  conv => lhs; whnf; rw [h1]; whnf; rw [h2]
  refine (if_neg (by rw [hb]; decide)).trans ?_
  conv => lhs; rw [h3]; whnf; rw [h4]; whnf; rw [h5]
theorem ng_int {v : Int} : notGlob (.int v) = true := rfl
theorem ng_list {ds : List D} : notGlob (.list ds) = true := rfl
theorem bTuple_of {i j : Nat} {x y : D} {ρ ρ₁ ρ₂ : AEnv} (h1 : List.set ρ i (some (.sh x)) = ρ₁) (h2 : List.set ρ₁ j (some (.sh y)) = ρ₂) : bTuple [i, j] (.tup [x, y]) ρ = some ρ₂ := by
  subst h1 h2; rfl
end
end Mine
end

section
open PySem PySem.W PyProof.Rows
set_option Elab.async false
set_option maxRecDepth 100000
set_option maxHeartbeats 80000000
namespace Mine
noncomputable def vw : Program := view PySem.Challenge.pw_uf010040_08 [0, 2, 3, 4, 5, 6, 7, 8, 9, 11, 12, 13, 14, 15, 17, 18, 19, 21, 22, 24, 25, 26, 28, 29, 30, 31, 32, 33, 34, 35, 36, 37, 38, 39]
local macro_rules | `(tactic| o_head $H) => `(tactic| (refine holds_open (q := vw) (loose := []) (Xt := fun s => xlAt vw [] s && recOk [] s) (XP := XL vw []) (Yf := Hook.obs $H) (Ya := Hook.val $H) (YP := Hook.says $H) (N := 8000) ?hl (Hook.of $H) (Hook.keeps $H) (fun s e => xl_of s (Bool.and_eq_true_iff.mp e).1) XL.keeps (by rfl) (by rfl) (by rfl) (fun s e => recFacts_of (Bool.and_eq_true_iff.mp e).2) (by rfl) (by first | assumption | decide +kernel) (by decide +kernel) ⟨rfl, rfl, rfl, rfl, rfl, by decide +kernel⟩ ?hw ?hc; (case hl => (intro w; unfold openEnds topFrom; rw [PySem.W.Fast.te14082659384304107361, PySem.W.Fast.te14364793385576792824, PySem.W.Fast.te4187177175401517315]; kernel_rfl))))
local macro_rules | `(tactic| o_law) => `(tactic| refine holds_law (by decide +kernel) fun said => ?_)
open_top hd for PySem.Challenge.rw_uf010040_08
end Mine
end

section
set_option Elab.async false
set_option maxRecDepth 100000
set_option maxHeartbeats 4000000
namespace Mine
open PySem PyProof.Rows
noncomputable def gd (p : Program) (w : World) (B : Heap) (mg mb : Str → Option Value) (q : Bool) : Gd := ⟨p, w, B, mg, mb, hd.heap_1 w.params, q⟩
noncomputable def f_met_in (K : W.Frag) : AEnv → Res Fl := (sSeq (sNewD 2) (sSeq (sFor (eEnum (eVar 1)) (bTuple [3, 4]) (sSeq (sExpr (eVal (eSetDef 2 (eOp 4) (eOp 3)))) sNil)) (sSeq (sFor (eEnum (eVar 0)) (bTuple [3, 4]) (sSeq (sIf (tInD false (eOp 4) 2) (sSeq (sRet (eTup (eCons (eVar 3) (eCons (eGetD 2 (eOp 4)) eNil)))) sNil) sNil) sNil)) (sSeq (sRet (eConst .none)) sNil))))
noncomputable def F_met_in (K : W.Frag) : List D → FOut := runI 5 [0, 1] (f_met_in K)
theorem ok_met_in {p : Program} {w : World} {B : Heap} {mg mb : Str → Option Value} (g : Gr (gd p w B mg mb true)) : FnOK (gd p w B mg mb true) 1 (.ref 144) (F_met_in (gd p w B mg mb true).K) :=
  fnI g 144 5 [0, 1] (f := f_met_in (gd p w B mg mb true).K) (simSs_cons (simS_newD g.ok (i := 2)) (simSs_cons (forS (enu g (nV 1)) (tgT2 3 4) (simSs_cons (exM (sdM 2 (nB 4) (nB 3))) simSs_nil)) (simSs_cons (forS (enu g (nV 0)) (tgT2 3 4) (simSs_cons (simS_If (simT_inD (i := 2) (nB 4)) (simSs_cons (simS_Return (sim_Tuple (vC (nV 3) (vC (sim_getD (i := 2) (nB 4)) simVs_nil)))) simSs_nil) simSs_nil) simSs_nil)) (simSs_cons (simS_Return sim_none) simSs_nil)))) (len2 fun _ _ => by kernel_rfl)
noncomputable def f_met_itself (K : W.Frag) : AEnv → Res Fl := (sSeq (sFor (eEnum (eVar 0)) (bTuple [1, 2]) (sSeq (sIf (eTest2 inI (eOp 2) (eVal (eSlice (eOp 0) (ePart (eVal (eOp2 addD (eOp 1) (eVal (eConst (.int 1)))))) eNoPart))) (sSeq (sRet (eTup (eCons (eVar 1) (eCons (eMethL lidxI (eOp 0) (eConsB (eOp 2) (eConsB (eVal (eOp2 addD (eOp 1) (eVal (eConst (.int 1))))) eNilB))) eNil)))) sNil) sNil) sNil)) (sSeq (sRet (eConst .none)) sNil))
noncomputable def F_met_itself (K : W.Frag) : List D → FOut := runI 3 [0] (f_met_itself K)
theorem ok_met_itself {p : Program} {w : World} {B : Heap} {mg mb : Str → Option Value} (g : Gr (gd p w B mg mb true)) : FnOK (gd p w B mg mb true) 1 (.ref 151) (F_met_itself (gd p w B mg mb true).K) :=
  fnI g 151 3 [0] (f := f_met_itself (gd p w B mg mb true).K) (simSs_cons (forS (enu g (nV 0)) (tgT2 1 2) (simSs_cons (simS_If (cmpT (nB 2) (SimB.of (sim_Slice (nB 0) (simP_some (SimB.of (sim_BinOp (nB 1) (SimB.of sim_int) op_addD))) simP_none)) op_in) (simSs_cons (simS_Return (sim_Tuple (vC (nV 1) (vC (sim_methL F.slot_list_index F.type_list_index op_lidx (nB 0) (aC (nB 2) (aC (SimB.of (sim_BinOp (nB 1) (SimB.of sim_int) op_addD)) simBs_nil))) simVs_nil)))) simSs_nil) simSs_nil) simSs_nil)) (simSs_cons (simS_Return sim_none) simSs_nil)) (len1 fun _ => by kernel_rfl)
noncomputable def f_swapped (K : W.Frag) : AEnv → Res Fl := (sSeq (sAssign 2 (eOpN listI (eConsB (eOp 0) eNilB))) (sSeq (sFor (eItems (eVar 1)) (bName 3) (sSeq (sSetItem 2 (eOp 3) (eOp2 idxI (eOp 0) (eVal (eOp2 addD (eOp 3) (eVal (eConst (.int 1))))))) (sSeq (sSetItem 2 (eVal (eOp2 addD (eOp 3) (eVal (eConst (.int 1))))) (eOp2 idxI (eOp 0) (eOp 3))) sNil))) (sSeq (sRet (eOpN tupleI (eConsB (eOp 2) eNilB))) sNil)))
noncomputable def F_swapped (K : W.Frag) : List D → FOut := runI 4 [0, 1] (f_swapped K)
theorem ok_swapped {p : Program} {w : World} {B : Heap} {mg mb : Str → Option Value} (g : Gr (gd p w B mg mb true)) : FnOK (gd p w B mg mb true) 1 (.ref 172) (F_swapped (gd p w B mg mb true).K) :=
  fnI g 172 4 [0, 1] (f := f_swapped (gd p w B mg mb true).K) (simSs_cons (asg 2 (cB g (.type "list") (op_list rfl) (aC (nB 0) simBs_nil))) (simSs_cons (forS (simI_of (nV 1)) (tgN 3) (simSs_cons (setI 2 (nB 3) (sub (nB 0) (SimB.of (sim_BinOp (nB 3) (SimB.of sim_int) op_addD)))) (simSs_cons (setI 2 (SimB.of (sim_BinOp (nB 3) (SimB.of sim_int) op_addD)) (sub (nB 0) (nB 3))) simSs_nil))) (simSs_cons (simS_Return (cB g (.type "tuple") (op_tuple rfl) (aC (nB 2) simBs_nil))) simSs_nil))) (len2 fun _ _ => by kernel_rfl)
noncomputable def f_is_whole (K : W.Frag) : AEnv → Res Fl := (sSeq (sRet (eBo .And (eVal (eOpN (isInstI K) (eConsB (eOp 0) (eConsB (eVal (eConst (.glob (.type "int")))) eNilB)))) (eOp1 notI (eVal (eOpN (isInstI K) (eConsB (eOp 0) (eConsB (eVal (eConst (.glob (.type "bool")))) eNilB))))))) sNil)
noncomputable def F_is_whole (K : W.Frag) : List D → FOut := runI 1 [0] (f_is_whole K)
theorem ok_is_whole {p : Program} {w : World} {B : Heap} {mg mb : Str → Option Value} (g : Gr (gd p w B mg mb true)) : FnOK (gd p w B mg mb true) 1 (.ref 125) (F_is_whole (gd p w B mg mb true).K) :=
  fnI g 125 1 [0] (f := f_is_whole (gd p w B mg mb true).K) (simSs_cons (simS_Return (sim_BoolOp (simBo_cons (SimB.of (cB g (.builtin "isinstance") (op_isinstance g.ok) (aC (nB 0) (aC (SimB.of (gB g (.type "int"))) simBs_nil)))) (simBo_one (sim_UnaryOp (SimB.of (cB g (.builtin "isinstance") (op_isinstance g.ok) (aC (nB 0) (aC (SimB.of (gB g (.type "bool"))) simBs_nil)))) op_not))))) simSs_nil) (len1 fun _ => by kernel_rfl)
noncomputable def f_is_row (K : W.Frag) : AEnv → Res Fl := (sSeq (sIf (eOr (eNot (eTruth (eVal (eOpN (isInstI K) (eConsB (eOp 0) (eConsB (eVal (eConst (.glob (.type "tuple")))) eNilB)))))) (eOr (eNot (eChain leI leI (eVal (eConst (.int 3))) (eVal (eOpN lenI (eConsB (eOp 0) eNilB))) (eVal (eConst (.int 12))))) eOrNil)) (sSeq (sRet (eConst (.bool false))) sNil) sNil) (sSeq (sIf (eNot (eTruth (eVal (eOpN allI (eConsB (eVal (eCompI [none, none] (eItems (eVar 0)) (bName 1) eAll (eCall (F_is_whole K) (eConsB (eOp 1) eNilB)))) eNilB))))) (sSeq (sRet (eConst (.bool false))) sNil) sNil) (sSeq (sRet (eOp2 eqI (eVal (eOpN sortedI (eConsB (eOp 0) eNilB))) (eVal (eOpN listI (eConsB (eVal (eOpN rangeI (eConsB (eVal (eOpN lenI (eConsB (eOp 0) eNilB))) eNilB))) eNilB))))) sNil)))
noncomputable def F_is_row (K : W.Frag) : List D → FOut := runI 1 [0] (f_is_row K)
theorem ok_is_row {p : Program} {w : World} {B : Heap} {mg mb : Str → Option Value} (g : Gr (gd p w B mg mb true)) : FnOK (gd p w B mg mb true) 2 (.ref 137) (F_is_row (gd p w B mg mb true).K) :=
  fnI g 137 1 [0] (f := f_is_row (gd p w B mg mb true).K) (simSs_cons (simS_If (simT_boolOp (simTs_or (simT_not (callT (SimB.of (cB g (.builtin "isinstance") (op_isinstance g.ok) (aC (nB 0) (aC (SimB.of (gB g (.type "tuple"))) simBs_nil)))))) (simTs_or (simT_not (chT (SimB.of (gI g 3 328)) (SimB.of (cB g (.builtin "len") op_len (aC (nB 0) simBs_nil))) (SimB.of (gI g 12 330)) op_le op_le)) simTs_or_nil))) (simSs_cons (simS_Return sim_bool) simSs_nil) simSs_nil) (simSs_cons (simS_If (simT_not (callT (SimB.of (cB g (.builtin "all") (op_all rfl) (aC (SimB.of (lc [none, none] (simI_of (nV 0)) (tgN 1) simTF_nil (cF g 125 (ok_is_whole g) (aC (nB 1) simBs_nil)))) simBs_nil))))) (simSs_cons (simS_Return sim_bool) simSs_nil) simSs_nil) (simSs_cons (simS_Return (cmpV (SimB.of (cB g (.builtin "sorted") op_sorted (aC (nB 0) simBs_nil))) (SimB.of (cB g (.type "list") (op_list rfl) (aC (SimB.of (cB g (.type "range") op_range (aC (SimB.of (cB g (.builtin "len") op_len (aC (nB 0) simBs_nil))) simBs_nil))) simBs_nil))) op_eq)) simSs_nil))) (len1 fun _ => by kernel_rfl)
noncomputable def f_Method_need_head (K : W.Frag) : AEnv → Res Fl := (sSeq (sIf (eOr (eNot (eTruth (eVal (eCall (F_is_row K) (eConsB (eOp 1) eNilB))))) (eOr (eTest2 neI (eVal (eOpN lenI (eConsB (eOp 1) eNilB))) (eVal (eAttr 238 "bells" 0))) eOrNil)) (sSeq (sRaise 56 (eCons (eConst (.str "no row of the method's bells")) eNil)) sNil) sNil) sNil)
noncomputable def F_Method_need_head (K : W.Frag) : List D → FOut := runI 2 [0, 1] (f_Method_need_head K)
theorem ok_Method_need_head {p : Program} {w : World} {B : Heap} {mg mb : Str → Option Value} (g : Gr (gd p w B mg mb true)) : FnOK (gd p w B mg mb true) 3 (.ref 214) (F_Method_need_head (gd p w B mg mb true).K) :=
  fnI g 214 2 [0, 1] (f := f_Method_need_head (gd p w B mg mb true).K) (simSs_cons (simS_If (simT_boolOp (simTs_or (simT_not (callT (SimB.of (cF g 137 (ok_is_row g) (aC (nB 1) simBs_nil))))) (simTs_or (cmpT (SimB.of (cB g (.builtin "len") op_len (aC (nB 1) simBs_nil))) (SimB.of (atr g 238 0)) op_ne) simTs_or_nil))) (simSs_cons (rais g 56 F.excBase_ValueError (vC sim_str simVs_nil)) simSs_nil) simSs_nil) simSs_nil) (len2 fun _ _ => by kernel_rfl)
noncomputable def f_Method_lead (K : W.Frag) : AEnv → Res Fl := (sSeq (sExpr (eVal (eMtd 238 "need_head" 0 (F_Method_need_head K) (eConsB (eOp 1) eNilB)))) (sSeq (sAssign 2 (eLst (eCons (eVar 1) eNil))) (sSeq (sFor (eItems (eAttr 238 "steps" 0)) (bName 3) (sSeq (sExpr (eVal (eAppend 2 (eCall (F_swapped K) (eConsB (eVal (eOp2 idxI (eOp 2) (eVal (eOp1 negI (eVal (eConst (.int 1))))))) (eConsB (eOp 3) eNilB)))))) sNil)) (sSeq (sRetVar 2) sNil))))
noncomputable def F_Method_lead (K : W.Frag) : List D → FOut := runI 4 [0, 1] (f_Method_lead K)
theorem ok_Method_lead {p : Program} {w : World} {B : Heap} {mg mb : Str → Option Value} (g : Gr (gd p w B mg mb true)) : FnOK (gd p w B mg mb true) 4 (.ref 228) (F_Method_lead (gd p w B mg mb true).K) :=
  fnI g 228 4 [0, 1] (f := f_Method_lead (gd p w B mg mb true).K) (simSs_cons (exM (SimM.of (mtd g 238 214 0 (ok_Method_need_head g) (aC (nB 1) simBs_nil)))) (simSs_cons (asg 2 (sim_List (vC (nV 1) simVs_nil))) (simSs_cons (forS (simI_of (atr g 238 0)) (tgN 3) (simSs_cons (exM (appM 2 (SimM.of (cF g 172 (ok_swapped g) (aC (SimB.of (sub (nB 2) (SimB.of (sim_UnaryOp (SimB.of sim_int) op_neg)))) (aC (nB 3) simBs_nil)))))) simSs_nil)) (simSs_cons (retV 2) simSs_nil)))) (len2 fun _ _ => by kernel_rfl)
noncomputable def f_meets (K : W.Frag) : AEnv → Res Fl := (sSeq (sAssign 3 (eMtd 238 "lead" 0 (F_Method_lead K) (eConsB (eOp 1) eNilB))) (sSeq (sAssign 4 (eMtd 238 "lead" 0 (F_Method_lead K) (eConsB (eOp 2) eNilB))) (sSeq (sIf (eTest2 eqI (eOp 1) (eOp 2)) (sSeq (sRet (eCall (F_met_itself K) (eConsB (eOp 3) eNilB))) sNil) sNil) (sSeq (sRet (eCall (F_met_in K) (eConsB (eOp 3) (eConsB (eOp 4) eNilB)))) sNil))))
noncomputable def F_meets (K : W.Frag) : List D → FOut := runI 5 [0, 1, 2] (f_meets K)
theorem ok_meets {p : Program} {w : World} {B : Heap} {mg mb : Str → Option Value} (g : Gr (gd p w B mg mb true)) : FnOK (gd p w B mg mb true) 5 (.ref 158) (F_meets (gd p w B mg mb true).K) :=
  fnI g 158 5 [0, 1, 2] (f := f_meets (gd p w B mg mb true).K) (simSs_cons (asg 3 (mtd g 238 228 0 (ok_Method_lead g) (aC (nB 1) simBs_nil))) (simSs_cons (asg 4 (mtd g 238 228 0 (ok_Method_lead g) (aC (nB 2) simBs_nil))) (simSs_cons (simS_If (cmpT (nB 1) (nB 2) op_eq) (simSs_cons (simS_Return (cF g 151 (ok_met_itself g) (aC (nB 3) simBs_nil))) simSs_nil) simSs_nil) (simSs_cons (simS_Return (cF g 144 (ok_met_in g) (aC (nB 3) (aC (nB 4) simBs_nil)))) simSs_nil)))) (len3 fun _ _ _ => by kernel_rfl)
noncomputable def f_law_cell (K : W.Frag) : AEnv → Res Fl := (sSeq (sIf (eTest2 ltI (eOp 1) (eVal (eOpN lenI (eConsB (eOp 0) eNilB)))) (sSeq (sRet (eOp2 idxI (eOp 0) (eOp 1))) sNil) sNil) (sSeq (sRet (eConst (.int 0))) sNil))
noncomputable def F_law_cell (K : W.Frag) : List D → FOut := runI 2 [0, 1] (f_law_cell K)
theorem ok_law_cell {p : Program} {w : World} {B : Heap} {mg mb : Str → Option Value} (g : Gr (gd p w B mg mb true)) : FnOK (gd p w B mg mb true) 1 (.ref 249) (F_law_cell (gd p w B mg mb true).K) :=
  fnI g 249 2 [0, 1] (f := f_law_cell (gd p w B mg mb true).K) (simSs_cons (simS_If (cmpT (nB 1) (SimB.of (cB g (.builtin "len") op_len (aC (nB 0) simBs_nil))) op_lt) (simSs_cons (simS_Return (sub (nB 0) (nB 1))) simSs_nil) simSs_nil) (simSs_cons (simS_Return sim_int) simSs_nil)) (len2 fun _ _ => by kernel_rfl)
noncomputable def f_law_mix (K : W.Frag) : AEnv → Res Fl := (sSeq (sRet (eOp2 modI (eVal (eOp2 addD (eVal (eOp2 addD (eVal (eOp2 addD (eVal (eOp2 mulD (eOp 0) (eVal (eConst (.int 48271))))) (eVal (eOp2 mulD (eVal (eOp2 mulD (eVal (eConst (.int 7919))) (eOp 1))) (eOp 1))))) (eVal (eOp2 mulD (eVal (eConst (.int 104729))) (eOp 1))))) (eVal (eConst (.int 12345))))) (eVal (eConst (.int 2147483647))))) sNil)
noncomputable def F_law_mix (K : W.Frag) : List D → FOut := runI 2 [0, 1] (f_law_mix K)
theorem ok_law_mix {p : Program} {w : World} {B : Heap} {mg mb : Str → Option Value} (g : Gr (gd p w B mg mb true)) : FnOK (gd p w B mg mb true) 1 (.ref 256) (F_law_mix (gd p w B mg mb true).K) :=
  fnI g 256 2 [0, 1] (f := f_law_mix (gd p w B mg mb true).K) (simSs_cons (simS_Return (sim_BinOp (SimB.of (sim_BinOp (SimB.of (sim_BinOp (SimB.of (sim_BinOp (SimB.of (sim_BinOp (nB 0) (SimB.of sim_int) op_mulD)) (SimB.of (sim_BinOp (SimB.of (sim_BinOp (SimB.of sim_int) (nB 1) op_mulD)) (nB 1) op_mulD)) op_addD)) (SimB.of (sim_BinOp (SimB.of sim_int) (nB 1) op_mulD)) op_addD)) (SimB.of sim_int) op_addD)) (SimB.of sim_int) op_mod)) simSs_nil) (len2 fun _ _ => by kernel_rfl)
noncomputable def f_law_row (K : W.Frag) : AEnv → Res Fl := (sSeq (sAssign 2 (eOpN listI (eConsB (eVal (eOpN rangeI (eConsB (eOp 1) eNilB))) eNilB))) (sSeq (sAssign 3 (eLst eNil)) (sSeq (sFor (eItems (eOpN rangeI (eConsB (eOp 1) eNilB))) (bName 4) (sSeq (sExpr (eVal (eAppend 3 (ePop 2 (eVal (eOp2 modI (eVal (eOp2 divI (eVal (eCall (F_law_mix K) (eConsB (eOp 0) (eConsB (eOp 4) eNilB)))) (eVal (eConst (.int 7))))) (eVal (eOpN lenI (eConsB (eOp 2) eNilB))))))))) sNil)) (sSeq (sRet (eOpN tupleI (eConsB (eOp 3) eNilB))) sNil))))
noncomputable def F_law_row (K : W.Frag) : List D → FOut := runI 5 [0, 1] (f_law_row K)
theorem ok_law_row {p : Program} {w : World} {B : Heap} {mg mb : Str → Option Value} (g : Gr (gd p w B mg mb true)) : FnOK (gd p w B mg mb true) 2 (.ref 263) (F_law_row (gd p w B mg mb true).K) :=
  fnI g 263 5 [0, 1] (f := f_law_row (gd p w B mg mb true).K) (simSs_cons (asg 2 (cB g (.type "list") (op_list rfl) (aC (SimB.of (cB g (.type "range") op_range (aC (nB 1) simBs_nil))) simBs_nil))) (simSs_cons (asg 3 (sim_List simVs_nil)) (simSs_cons (forS (simI_of (cB g (.type "range") op_range (aC (nB 1) simBs_nil))) (tgN 4) (simSs_cons (exM (appM 3 (popM 2 (SimB.of (sim_BinOp (SimB.of (sim_BinOp (SimB.of (cF g 256 (ok_law_mix g) (aC (nB 0) (aC (nB 4) simBs_nil)))) (SimB.of sim_int) op_div)) (SimB.of (cB g (.builtin "len") op_len (aC (nB 2) simBs_nil))) op_mod))))) simSs_nil)) (simSs_cons (simS_Return (cB g (.type "tuple") (op_tuple rfl) (aC (nB 3) simBs_nil))) simSs_nil)))) (len2 fun _ _ => by kernel_rfl)
noncomputable def f_law_change (K : W.Frag) : AEnv → Res Fl := (sSeq (sAssign 2 (eLst eNil)) (sSeq (sAssign 3 (eConst (.int 0))) (sSeq (sWhile 1000 (eTest2 ltI (eOp 3) (eVal (eOp2 subI (eOp 1) (eVal (eConst (.int 1)))))) (sSeq (sIf (eTest2 gtI (eVal (eOp2 modI (eVal (eOp2 divI (eVal (eCall (F_law_mix K) (eConsB (eOp 0) (eConsB (eOp 3) eNilB)))) (eVal (eConst (.int 5))))) (eVal (eConst (.int 3))))) (eVal (eConst (.int 0)))) (sSeq (sExpr (eVal (eAppend 2 (eVar 3)))) (sSeq (sAssign 3 (eOp2 addD (eOp 3) (eVal (eConst (.int 1))))) sNil)) sNil) (sSeq (sAssign 3 (eOp2 addD (eOp 3) (eVal (eConst (.int 1))))) sNil))) (sSeq (sIf (eTest2 eqI (eOp 2) (eVal (eLst eNil))) (sSeq (sAssign 2 (eLst (eCons (eOp2 modI (eVal (eCall (F_law_mix K) (eConsB (eOp 0) (eConsB (eVal (eConst (.int 20))) eNilB)))) (eVal (eOp2 subI (eOp 1) (eVal (eConst (.int 1)))))) eNil))) sNil) sNil) (sSeq (sRet (eOpN tupleI (eConsB (eOp 2) eNilB))) sNil)))))
noncomputable def F_law_change (K : W.Frag) : List D → FOut := runI 4 [0, 1] (f_law_change K)
theorem ok_law_change {p : Program} {w : World} {B : Heap} {mg mb : Str → Option Value} (g : Gr (gd p w B mg mb true)) : FnOK (gd p w B mg mb true) 2 (.ref 270) (F_law_change (gd p w B mg mb true).K) :=
  fnI g 270 4 [0, 1] (f := f_law_change (gd p w B mg mb true).K) (simSs_cons (asg 2 (sim_List simVs_nil)) (simSs_cons (asg 3 sim_int) (simSs_cons (simS_While (cmpT (nB 3) (SimB.of (sim_BinOp (nB 1) (SimB.of sim_int) op_sub)) op_lt) (simSs_cons (simS_If (cmpT (SimB.of (sim_BinOp (SimB.of (sim_BinOp (SimB.of (cF g 256 (ok_law_mix g) (aC (nB 0) (aC (nB 3) simBs_nil)))) (SimB.of sim_int) op_div)) (SimB.of sim_int) op_mod)) (SimB.of sim_int) op_gt) (simSs_cons (exM (appM 2 (SimM.of (nV 3)))) (simSs_cons (asg 3 (sim_BinOp (nB 3) (SimB.of sim_int) op_addD)) simSs_nil)) simSs_nil) (simSs_cons (asg 3 (sim_BinOp (nB 3) (SimB.of sim_int) op_addD)) simSs_nil))) (simSs_cons (simS_If (cmpT (nB 2) (SimB.of (sim_List simVs_nil)) op_eq) (simSs_cons (asg 2 (sim_List (vC (sim_BinOp (SimB.of (cF g 256 (ok_law_mix g) (aC (nB 0) (aC (SimB.of sim_int) simBs_nil)))) (SimB.of (sim_BinOp (nB 1) (SimB.of sim_int) op_sub)) op_mod) simVs_nil))) simSs_nil) simSs_nil) (simSs_cons (simS_Return (cB g (.type "tuple") (op_tuple rfl) (aC (nB 2) simBs_nil))) simSs_nil))))) (len2 fun _ _ => by kernel_rfl)
noncomputable def f_law_rung (K : W.Frag) : AEnv → Res Fl := (sSeq (sAssign 2 (eOpN listI (eConsB (eOp 0) eNilB))) (sSeq (sFor (eItems (eVar 1)) (bName 3) (sSeq (sAssign 2 (eOp2 addD (eVal (eOp2 addD (eVal (eSlice (eOp 2) eNoPart (ePart (eOp 3)))) (eVal (eLst (eCons (eOp2 idxI (eOp 2) (eVal (eOp2 addD (eOp 3) (eVal (eConst (.int 1)))))) (eCons (eOp2 idxI (eOp 2) (eOp 3)) eNil)))))) (eVal (eSlice (eOp 2) (ePart (eVal (eOp2 addD (eOp 3) (eVal (eConst (.int 2)))))) eNoPart)))) sNil)) (sSeq (sRet (eOpN tupleI (eConsB (eOp 2) eNilB))) sNil)))
noncomputable def F_law_rung (K : W.Frag) : List D → FOut := runI 4 [0, 1] (f_law_rung K)
theorem ok_law_rung {p : Program} {w : World} {B : Heap} {mg mb : Str → Option Value} (g : Gr (gd p w B mg mb true)) : FnOK (gd p w B mg mb true) 1 (.ref 277) (F_law_rung (gd p w B mg mb true).K) :=
  fnI g 277 4 [0, 1] (f := f_law_rung (gd p w B mg mb true).K) (simSs_cons (asg 2 (cB g (.type "list") (op_list rfl) (aC (nB 0) simBs_nil))) (simSs_cons (forS (simI_of (nV 1)) (tgN 3) (simSs_cons (asg 2 (sim_BinOp (SimB.of (sim_BinOp (SimB.of (sim_Slice (nB 2) simP_none (simP_some (nB 3)))) (SimB.of (sim_List (vC (sub (nB 2) (SimB.of (sim_BinOp (nB 3) (SimB.of sim_int) op_addD))) (vC (sub (nB 2) (nB 3)) simVs_nil)))) op_addD)) (SimB.of (sim_Slice (nB 2) (simP_some (SimB.of (sim_BinOp (nB 3) (SimB.of sim_int) op_addD))) simP_none)) op_addD)) simSs_nil)) (simSs_cons (simS_Return (cB g (.type "tuple") (op_tuple rfl) (aC (nB 2) simBs_nil))) simSs_nil))) (len2 fun _ _ => by kernel_rfl)
noncomputable def f_law_lead (K : W.Frag) : AEnv → Res Fl := (sSeq (sAssign 2 (eLst (eCons (eVar 0) eNil))) (sSeq (sFor (eItems (eVar 1)) (bName 3) (sSeq (sExpr (eVal (eAppend 2 (eCall (F_law_rung K) (eConsB (eVal (eOp2 idxI (eOp 2) (eVal (eOp1 negI (eVal (eConst (.int 1))))))) (eConsB (eOp 3) eNilB)))))) sNil)) (sSeq (sRetVar 2) sNil)))
noncomputable def F_law_lead (K : W.Frag) : List D → FOut := runI 4 [0, 1] (f_law_lead K)
theorem ok_law_lead {p : Program} {w : World} {B : Heap} {mg mb : Str → Option Value} (g : Gr (gd p w B mg mb true)) : FnOK (gd p w B mg mb true) 2 (.ref 289) (F_law_lead (gd p w B mg mb true).K) :=
  fnI g 289 4 [0, 1] (f := f_law_lead (gd p w B mg mb true).K) (simSs_cons (asg 2 (sim_List (vC (nV 0) simVs_nil))) (simSs_cons (forS (simI_of (nV 1)) (tgN 3) (simSs_cons (exM (appM 2 (SimM.of (cF g 277 (ok_law_rung g) (aC (SimB.of (sub (nB 2) (SimB.of (sim_UnaryOp (SimB.of sim_int) op_neg)))) (aC (nB 3) simBs_nil)))))) simSs_nil)) (simSs_cons (retV 2) simSs_nil))) (len2 fun _ _ => by kernel_rfl)
noncomputable def f_law_due (K : W.Frag) : AEnv → Res Fl := (sSeq (sAssign 3 (eCall (F_law_lead K) (eConsB (eOp 1) (eConsB (eOp 0) eNilB)))) (sSeq (sAssign 4 (eCall (F_law_lead K) (eConsB (eOp 2) (eConsB (eOp 0) eNilB)))) (sSeq (sFor (eItems (eOpN rangeI (eConsB (eVal (eOpN lenI (eConsB (eOp 3) eNilB))) eNilB))) (bName 5) (sSeq (sFor (eItems (eOpN rangeI (eConsB (eVal (eOpN lenI (eConsB (eOp 4) eNilB))) eNilB))) (bName 6) (sSeq (sIf (eAnd (eTest2 eqI (eVal (eOp2 idxI (eOp 3) (eOp 5))) (eVal (eOp2 idxI (eOp 4) (eOp 6)))) (eAnd (eOr (eTest2 neI (eOp 1) (eOp 2)) (eOr (eTest2 ltI (eOp 5) (eOp 6)) eOrNil)) eAndNil)) (sSeq (sRet (eTup (eCons (eVar 5) (eCons (eVar 6) eNil)))) sNil) sNil) sNil)) sNil)) (sSeq (sRet (eConst .none)) sNil))))
noncomputable def F_law_due (K : W.Frag) : List D → FOut := runI 7 [0, 1, 2] (f_law_due K)
theorem ok_law_due {p : Program} {w : World} {B : Heap} {mg mb : Str → Option Value} (g : Gr (gd p w B mg mb true)) : FnOK (gd p w B mg mb true) 3 (.ref 296) (F_law_due (gd p w B mg mb true).K) :=
  fnI g 296 7 [0, 1, 2] (f := f_law_due (gd p w B mg mb true).K) (simSs_cons (asg 3 (cF g 289 (ok_law_lead g) (aC (nB 1) (aC (nB 0) simBs_nil)))) (simSs_cons (asg 4 (cF g 289 (ok_law_lead g) (aC (nB 2) (aC (nB 0) simBs_nil)))) (simSs_cons (forS (simI_of (cB g (.type "range") op_range (aC (SimB.of (cB g (.builtin "len") op_len (aC (nB 3) simBs_nil))) simBs_nil))) (tgN 5) (simSs_cons (forS (simI_of (cB g (.type "range") op_range (aC (SimB.of (cB g (.builtin "len") op_len (aC (nB 4) simBs_nil))) simBs_nil))) (tgN 6) (simSs_cons (simS_If (simT_boolOp (simTs_and (cmpT (SimB.of (sub (nB 3) (nB 5))) (SimB.of (sub (nB 4) (nB 6))) op_eq) (simTs_and (simT_boolOp (simTs_or (cmpT (nB 1) (nB 2) op_ne) (simTs_or (cmpT (nB 5) (nB 6) op_lt) simTs_or_nil))) simTs_and_nil))) (simSs_cons (simS_Return (sim_Tuple (vC (nV 5) (vC (nV 6) simVs_nil)))) simSs_nil) simSs_nil) simSs_nil)) simSs_nil)) (simSs_cons (simS_Return sim_none) simSs_nil)))) (len3 fun _ _ _ => by kernel_rfl)
noncomputable def f_law_word (K : W.Frag) : AEnv → Res Fl := (sSeq (sAssign 1 (eLst (eCons (eTup (eCons (eConst (.str "bells")) (eCons (eOpN (isInstI K) (eConsB (eOp 0) (eConsB (eVal (eConst (.glob (.ref 44)))) eNilB))) eNil))) (eCons (eTup (eCons (eConst (.str "row")) (eCons (eOpN (isInstI K) (eConsB (eOp 0) (eConsB (eVal (eConst (.glob (.ref 56)))) eNilB))) eNil))) (eCons (eTup (eCons (eConst (.str "change")) (eCons (eOpN (isInstI K) (eConsB (eOp 0) (eConsB (eVal (eConst (.glob (.ref 68)))) eNilB))) eNil))) eNil))))) (sSeq (sAssign 1 (eOp2 addD (eOp 1) (eVal (eLst (eCons (eTup (eCons (eConst (.str "method")) (eCons (eOpN (isInstI K) (eConsB (eOp 0) (eConsB (eVal (eConst (.glob (.ref 80)))) eNilB))) eNil))) (eCons (eTup (eCons (eConst (.str "call")) (eCons (eOpN (isInstI K) (eConsB (eOp 0) (eConsB (eVal (eConst (.glob (.ref 92)))) eNilB))) eNil))) eNil)))))) (sSeq (sAssign 1 (eOp2 addD (eOp 1) (eVal (eLst (eCons (eTup (eCons (eConst (.str "count")) (eCons (eOpN (isInstI K) (eConsB (eOp 0) (eConsB (eVal (eConst (.glob (.ref 104)))) eNilB))) eNil))) (eCons (eTup (eCons (eConst (.str "text")) (eCons (eOpN (isInstI K) (eConsB (eOp 0) (eConsB (eVal (eConst (.glob (.ref 116)))) eNilB))) eNil))) eNil)))))) (sSeq (sAssign 2 (eCompI [none, none, none, some 0] (eItems (eVar 1)) (bTuple [1, 2]) (eAnd (eTruth (eOp 2)) (eAnd (eTruth (eVal (eOpN (isInstI K) (eConsB (eOp 3) (eConsB (eVal (eConst (.glob (.type "ValueError")))) eNilB))))) eAndNil)) (eVar 1))) (sSeq (sIf (eTest2 eqI (eVal (eOpN lenI (eConsB (eOp 2) eNilB))) (eVal (eConst (.int 1)))) (sSeq (sRet (eLst (eCons (eConst (.str "refused")) (eCons (eOp2 idxI (eOp 2) (eVal (eConst (.int 0)))) eNil)))) sNil) sNil) (sSeq (sRet (eLst (eCons (eConst (.str "refused")) (eCons (eConst (.str "otherwise")) eNil)))) sNil))))))
noncomputable def F_law_word (K : W.Frag) : List D → FOut := runI 3 [0] (f_law_word K)
theorem ok_law_word {p : Program} {w : World} {B : Heap} {mg mb : Str → Option Value} (g : Gr (gd p w B mg mb false)) : FnOK (gd p w B mg mb false) 1 (.ref 282) (F_law_word (gd p w B mg mb false).K) :=
  fnI g 282 3 [0] (f := f_law_word (gd p w B mg mb false).K) (simSs_cons (asg 1 (sim_List (vC (sim_Tuple (vC sim_str (vC (cB g (.builtin "isinstance") (op_isinstance g.ok) (aC (nB 0) (aC (SimB.of (gF g 44)) simBs_nil))) simVs_nil))) (vC (sim_Tuple (vC sim_str (vC (cB g (.builtin "isinstance") (op_isinstance g.ok) (aC (nB 0) (aC (SimB.of (gF g 56)) simBs_nil))) simVs_nil))) (vC (sim_Tuple (vC sim_str (vC (cB g (.builtin "isinstance") (op_isinstance g.ok) (aC (nB 0) (aC (SimB.of (gF g 68)) simBs_nil))) simVs_nil))) simVs_nil))))) (simSs_cons (asg 1 (sim_BinOp (nB 1) (SimB.of (sim_List (vC (sim_Tuple (vC sim_str (vC (cB g (.builtin "isinstance") (op_isinstance g.ok) (aC (nB 0) (aC (SimB.of (gF g 80)) simBs_nil))) simVs_nil))) (vC (sim_Tuple (vC sim_str (vC (cB g (.builtin "isinstance") (op_isinstance g.ok) (aC (nB 0) (aC (SimB.of (gF g 92)) simBs_nil))) simVs_nil))) simVs_nil)))) op_addD)) (simSs_cons (asg 1 (sim_BinOp (nB 1) (SimB.of (sim_List (vC (sim_Tuple (vC sim_str (vC (cB g (.builtin "isinstance") (op_isinstance g.ok) (aC (nB 0) (aC (SimB.of (gF g 104)) simBs_nil))) simVs_nil))) (vC (sim_Tuple (vC sim_str (vC (cB g (.builtin "isinstance") (op_isinstance g.ok) (aC (nB 0) (aC (SimB.of (gF g 116)) simBs_nil))) simVs_nil))) simVs_nil)))) op_addD)) (simSs_cons (asgC 2 [none, none, none, some 0] (simI_of (nV 1)) (tgT2 1 2) (simTF_one (simT_boolOp (simTs_and (nameT (nB 2)) (simTs_and (callT (SimB.of (cB g (.builtin "isinstance") (op_isinstance g.ok) (aC (nB 3) (aC (SimB.of (gB g (.type "ValueError"))) simBs_nil))))) simTs_and_nil)))) (nV 1)) (simSs_cons (simS_If (cmpT (SimB.of (cB g (.builtin "len") op_len (aC (nB 2) simBs_nil))) (SimB.of sim_int) op_eq) (simSs_cons (simS_Return (sim_List (vC sim_str (vC (sub (nB 2) (SimB.of sim_int)) simVs_nil)))) simSs_nil) simSs_nil) (simSs_cons (simS_Return (sim_List (vC sim_str (vC sim_str simVs_nil)))) simSs_nil)))))) (len1 fun _ => by kernel_rfl)
noncomputable def f_law_told (K : W.Frag) : AEnv → Res Fl := (sSeq (sTry K 31 3 (sSeq (sRet (eCall (F_meets K) (eConsB (eOp 0) (eConsB (eOp 1) (eConsB (eOp 2) eNilB))))) sNil) (sSeq (sRet (eCall (F_law_word K) (eConsB (eOp 3) eNilB))) sNil)) sNil)
noncomputable def F_law_told (K : W.Frag) : List D → FOut := runI 4 [0, 1, 2] (f_law_told K)
theorem ok_law_told {p : Program} {w : World} {B : Heap} {mg mb : Str → Option Value} (g : Gr (gd p w B mg mb true)) : FnOK (gd p w B mg mb true) 6 (.ref 303) (F_law_told (gd p w B mg mb true).K) :=
  fnI g 303 4 [0, 1, 2] (f := f_law_told (gd p w B mg mb true).K) (simSs_cons (tryS g 31 3 (simSs_cons (simS_Return (cF g 158 (ok_meets g) (aC (nB 0) (aC (nB 1) (aC (nB 2) simBs_nil))))) simSs_nil) (simSs_cons (simS_Return (cF g.loud 282 (ok_law_word g.loud) (aC (nB 3) simBs_nil))) simSs_nil)) simSs_nil) (len3 fun _ _ _ => by kernel_rfl)
noncomputable def f_law_same (K : W.Frag) : AEnv → Res Fl := (sSeq (sIf (eOr (eTest2 isI (eOp 1) (eVal (eConst .none))) (eOr (eTest2 isI (eOp 0) (eVal (eConst .none))) eOrNil)) (sSeq (sRet (eBo .And (eVal (eOp2 isI (eOp 0) (eVal (eConst .none)))) (eOp2 isI (eOp 1) (eVal (eConst .none))))) sNil) sNil) (sSeq (sIf (eOr (eNot (eTruth (eVal (eOpN (isInstI K) (eConsB (eOp 0) (eConsB (eVal (eConst (.glob (.type "tuple")))) eNilB)))))) (eOr (eTest2 neI (eOp 0) (eOp 1)) eOrNil)) (sSeq (sRet (eConst (.bool false))) sNil) sNil) (sSeq (sRet (eOpN allI (eConsB (eVal (eCompI [none, none] (eItems (eVar 0)) (bName 1) eAll (eBo .And (eVal (eOpN (isInstI K) (eConsB (eOp 1) (eConsB (eVal (eConst (.glob (.type "int")))) eNilB)))) (eOp1 notI (eVal (eOpN (isInstI K) (eConsB (eOp 1) (eConsB (eVal (eConst (.glob (.type "bool")))) eNilB)))))))) eNilB))) sNil)))
noncomputable def F_law_same (K : W.Frag) : List D → FOut := runI 2 [0, 1] (f_law_same K)
theorem ok_law_same {p : Program} {w : World} {B : Heap} {mg mb : Str → Option Value} (g : Gr (gd p w B mg mb true)) : FnOK (gd p w B mg mb true) 1 (.ref 308) (F_law_same (gd p w B mg mb true).K) :=
  fnI g 308 2 [0, 1] (f := f_law_same (gd p w B mg mb true).K) (simSs_cons (simS_If (simT_boolOp (simTs_or (cmpT (nB 1) (SimB.of sim_none) op_is) (simTs_or (cmpT (nB 0) (SimB.of sim_none) op_is) simTs_or_nil))) (simSs_cons (simS_Return (sim_BoolOp (simBo_cons (SimB.of (cmpV (nB 0) (SimB.of sim_none) op_is)) (simBo_one (cmpV (nB 1) (SimB.of sim_none) op_is))))) simSs_nil) simSs_nil) (simSs_cons (simS_If (simT_boolOp (simTs_or (simT_not (callT (SimB.of (cB g (.builtin "isinstance") (op_isinstance g.ok) (aC (nB 0) (aC (SimB.of (gB g (.type "tuple"))) simBs_nil)))))) (simTs_or (cmpT (nB 0) (nB 1) op_ne) simTs_or_nil))) (simSs_cons (simS_Return sim_bool) simSs_nil) simSs_nil) (simSs_cons (simS_Return (cB g (.builtin "all") (op_all rfl) (aC (SimB.of (lc [none, none] (simI_of (nV 0)) (tgN 1) simTF_nil (sim_BoolOp (simBo_cons (SimB.of (cB g (.builtin "isinstance") (op_isinstance g.ok) (aC (nB 1) (aC (SimB.of (gB g (.type "int"))) simBs_nil)))) (simBo_one (sim_UnaryOp (SimB.of (cB g (.builtin "isinstance") (op_isinstance g.ok) (aC (nB 1) (aC (SimB.of (gB g (.type "bool"))) simBs_nil)))) op_not)))))) simBs_nil))) simSs_nil))) (len2 fun _ _ => by kernel_rfl)
noncomputable def f_law_other (K : W.Frag) : AEnv → Res Fl := (sSeq (sIf (eTest2 eqI (eVal (eOp2 modI (eOp 0) (eVal (eConst (.int 4))))) (eVal (eConst (.int 0)))) (sSeq (sRet (eCall (F_law_row K) (eConsB (eOp 0) (eConsB (eVal (eOpN lenI (eConsB (eOp 2) eNilB))) eNilB)))) sNil) sNil) (sSeq (sIf (eTest2 eqI (eVal (eOp2 modI (eOp 0) (eVal (eConst (.int 4))))) (eVal (eConst (.int 3)))) (sSeq (sRetVar 2) sNil) sNil) (sSeq (sAssign 3 (eOp2 idxI (eVal (eCall (F_law_lead K) (eConsB (eOp 2) (eConsB (eOp 1) eNilB)))) (eVal (eOp2 modI (eVal (eOp2 divI (eOp 0) (eVal (eConst (.int 4))))) (eVal (eOp2 addD (eVal (eOpN lenI (eConsB (eOp 1) eNilB))) (eVal (eConst (.int 1))))))))) (sSeq (sIf (eTest2 eqI (eVal (eOp2 modI (eOp 0) (eVal (eConst (.int 4))))) (eVal (eConst (.int 1)))) (sSeq (sRetVar 3) sNil) sNil) (sSeq (sFor (eRev (eSlice (eOp 1) eNoPart (ePart (eVal (eOp2 modI (eVal (eOp2 divI (eOp 0) (eVal (eConst (.int 52))))) (eVal (eOp2 addD (eVal (eOpN lenI (eConsB (eOp 1) eNilB))) (eVal (eConst (.int 1)))))))))) (bName 4) (sSeq (sAssign 3 (eCall (F_law_rung K) (eConsB (eOp 3) (eConsB (eOp 4) eNilB)))) sNil)) (sSeq (sRetVar 3) sNil))))))
noncomputable def F_law_other (K : W.Frag) : List D → FOut := runI 5 [0, 1, 2] (f_law_other K)
theorem ok_law_other {p : Program} {w : World} {B : Heap} {mg mb : Str → Option Value} (g : Gr (gd p w B mg mb true)) : FnOK (gd p w B mg mb true) 3 (.ref 315) (F_law_other (gd p w B mg mb true).K) :=
  fnI g 315 5 [0, 1, 2] (f := f_law_other (gd p w B mg mb true).K) (simSs_cons (simS_If (cmpT (SimB.of (sim_BinOp (nB 0) (SimB.of sim_int) op_mod)) (SimB.of sim_int) op_eq) (simSs_cons (simS_Return (cF g 263 (ok_law_row g) (aC (nB 0) (aC (SimB.of (cB g (.builtin "len") op_len (aC (nB 2) simBs_nil))) simBs_nil)))) simSs_nil) simSs_nil) (simSs_cons (simS_If (cmpT (SimB.of (sim_BinOp (nB 0) (SimB.of sim_int) op_mod)) (SimB.of sim_int) op_eq) (simSs_cons (retV 2) simSs_nil) simSs_nil) (simSs_cons (asg 3 (sub (SimB.of (cF g 289 (ok_law_lead g) (aC (nB 2) (aC (nB 1) simBs_nil)))) (SimB.of (sim_BinOp (SimB.of (sim_BinOp (nB 0) (SimB.of sim_int) op_div)) (SimB.of (sim_BinOp (SimB.of (cB g (.builtin "len") op_len (aC (nB 1) simBs_nil))) (SimB.of sim_int) op_addD)) op_mod)))) (simSs_cons (simS_If (cmpT (SimB.of (sim_BinOp (nB 0) (SimB.of sim_int) op_mod)) (SimB.of sim_int) op_eq) (simSs_cons (retV 3) simSs_nil) simSs_nil) (simSs_cons (forS (rvI g (sim_Slice (nB 1) simP_none (simP_some (SimB.of (sim_BinOp (SimB.of (sim_BinOp (nB 0) (SimB.of sim_int) op_div)) (SimB.of (sim_BinOp (SimB.of (cB g (.builtin "len") op_len (aC (nB 1) simBs_nil))) (SimB.of sim_int) op_addD)) op_mod))))) (tgN 4) (simSs_cons (asg 3 (cF g 277 (ok_law_rung g) (aC (nB 3) (aC (nB 4) simBs_nil)))) simSs_nil)) (simSs_cons (retV 3) simSs_nil)))))) (len3 fun _ _ _ => by kernel_rfl)
noncomputable def f_need_bells (K : W.Frag) : AEnv → Res Fl := (sSeq (sIf (eOr (eNot (eTruth (eVal (eCall (F_is_whole K) (eConsB (eOp 0) eNilB))))) (eOr (eNot (eChain leI leI (eVal (eConst (.int 3))) (eOp 0) (eVal (eConst (.int 12))))) eOrNil)) (sSeq (sRaise 44 (eCons (eConst (.str "there are 3 to 12 bells")) eNil)) sNil) sNil) sNil)
noncomputable def F_need_bells (K : W.Frag) : List D → FOut := runI 1 [0] (f_need_bells K)
theorem ok_need_bells {p : Program} {w : World} {B : Heap} {mg mb : Str → Option Value} (g : Gr (gd p w B mg mb true)) : FnOK (gd p w B mg mb true) 2 (.ref 132) (F_need_bells (gd p w B mg mb true).K) :=
  fnI g 132 1 [0] (f := f_need_bells (gd p w B mg mb true).K) (simSs_cons (simS_If (simT_boolOp (simTs_or (simT_not (callT (SimB.of (cF g 125 (ok_is_whole g) (aC (nB 0) simBs_nil))))) (simTs_or (simT_not (chT (SimB.of (gI g 3 328)) (nB 0) (SimB.of (gI g 12 330)) op_le op_le)) simTs_or_nil))) (simSs_cons (rais g 44 F.excBase_ValueError (vC sim_str simVs_nil)) simSs_nil) simSs_nil) simSs_nil) (len1 fun _ => by kernel_rfl)
noncomputable def f_need_places (K : W.Frag) : AEnv → Res Fl := (sSeq (sIf (eOr (eNot (eTruth (eVal (eOpN (isInstI K) (eConsB (eOp 1) (eConsB (eVal (eConst (.glob (.type "tuple")))) eNilB)))))) (eOr (eTest2 eqI (eVal (eOpN lenI (eConsB (eOp 1) eNilB))) (eVal (eConst (.int 0)))) eOrNil)) (sSeq (sRaise 68 (eCons (eConst (.str "no change")) eNil)) sNil) sNil) (sSeq (sAssign 2 (eOp1 negI (eVal (eConst (.int 2))))) (sSeq (sFor (eItems (eVar 1)) (bName 3) (sSeq (sIf (eOr (eNot (eTruth (eVal (eCall (F_is_whole K) (eConsB (eOp 3) eNilB))))) (eOr (eNot (eChain leI leI (eVal (eOp2 addD (eOp 2) (eVal (eConst (.int 2))))) (eOp 3) (eVal (eOp2 subI (eOp 0) (eVal (eConst (.int 2))))))) eOrNil)) (sSeq (sRaise 68 (eCons (eConst (.str "no place of a change")) eNil)) sNil) sNil) (sSeq (sAssign 2 (eVar 3)) sNil))) sNil)))
noncomputable def F_need_places (K : W.Frag) : List D → FOut := runI 4 [0, 1] (f_need_places K)
theorem ok_need_places {p : Program} {w : World} {B : Heap} {mg mb : Str → Option Value} (g : Gr (gd p w B mg mb true)) : FnOK (gd p w B mg mb true) 2 (.ref 165) (F_need_places (gd p w B mg mb true).K) :=
  fnI g 165 4 [0, 1] (f := f_need_places (gd p w B mg mb true).K) (simSs_cons (simS_If (simT_boolOp (simTs_or (simT_not (callT (SimB.of (cB g (.builtin "isinstance") (op_isinstance g.ok) (aC (nB 1) (aC (SimB.of (gB g (.type "tuple"))) simBs_nil)))))) (simTs_or (cmpT (SimB.of (cB g (.builtin "len") op_len (aC (nB 1) simBs_nil))) (SimB.of sim_int) op_eq) simTs_or_nil))) (simSs_cons (rais g 68 F.excBase_ValueError (vC sim_str simVs_nil)) simSs_nil) simSs_nil) (simSs_cons (asg 2 (sim_UnaryOp (SimB.of sim_int) op_neg)) (simSs_cons (forS (simI_of (nV 1)) (tgN 3) (simSs_cons (simS_If (simT_boolOp (simTs_or (simT_not (callT (SimB.of (cF g 125 (ok_is_whole g) (aC (nB 3) simBs_nil))))) (simTs_or (simT_not (chT (SimB.of (sim_BinOp (nB 2) (SimB.of sim_int) op_addD)) (nB 3) (SimB.of (sim_BinOp (nB 0) (SimB.of sim_int) op_sub)) op_le op_le)) simTs_or_nil))) (simSs_cons (rais g 68 F.excBase_ValueError (vC sim_str simVs_nil)) simSs_nil) simSs_nil) (simSs_cons (asg 2 (nV 3)) simSs_nil))) simSs_nil))) (len2 fun _ _ => by kernel_rfl)
noncomputable def f_Method_init (K : W.Frag) : AEnv → Res Fl := (sSeq (sExpr (eVal (eCall (F_need_bells K) (eConsB (eOp 1) eNilB)))) (sSeq (sIf (eOr (eNot (eTruth (eVal (eOpN (isInstI K) (eConsB (eOp 2) (eConsB (eVal (eConst (.glob (.type "list")))) eNilB)))))) (eOr (eTest2 gtI (eVal (eOpN lenI (eConsB (eOp 2) eNilB))) (eVal (eConst (.int 30)))) eOrNil)) (sSeq (sRaise 80 (eCons (eConst (.str "inner changes are a list of 0 to 30")) eNil)) sNil) sNil) (sSeq (sIf (eOr (eNot (eTruth (eVal (eOpN (isInstI K) (eConsB (eOp 3) (eConsB (eVal (eConst (.glob (.type "list")))) eNilB)))))) (eOr (eNot (eChain leI leI (eVal (eConst (.int 1))) (eVal (eOpN lenI (eConsB (eOp 3) eNilB))) (eVal (eConst (.int 4))))) eOrNil)) (sSeq (sRaise 80 (eCons (eConst (.str "calls are a list of 1 to 4")) eNil)) sNil) sNil) (sSeq (sFor (eItems (eOp2 addD (eOp 2) (eOp 3))) (bName 4) (sSeq (sExpr (eVal (eCall (F_need_places K) (eConsB (eOp 1) (eConsB (eOp 4) eNilB))))) sNil)) sNil))))
noncomputable def t_Method_init (K : W.Frag) : List (Str × (AEnv → Res T)) := [("bells", (eVar 1)), ("steps", (eOpN listI (eConsB (eOp 2) eNilB))), ("ways", (eOpN listI (eConsB (eOp 3) eNilB)))]
noncomputable def I_Method (K : W.Frag) : Addr → List D → IOut := runIn 5 [0, 1, 2, 3] 0 (f_Method_init K) (t_Method_init K)
theorem ok_Method_init {p : Program} {w : World} {B : Heap} {mg mb : Str → Option Value} (g : Gr (gd p w B mg mb true)) : InitOK (gd p w B mg mb true) 3 (.ref 186) 238 ["bells", "steps", "ways"] (I_Method (gd p w B mg mb true).K) :=
  inI_ g 186 5 [0, 1, 2, 3] 0 238 "self" (f := f_Method_init (gd p w B mg mb true).K) (ts := t_Method_init (gd p w B mg mb true).K) (.cons (simS_Expr (SimB.of (cF g 132 (ok_need_bells g) (aC (nB 1) simBs_nil))) (fun _ => rfl)) (.cons (simS_If (simT_boolOp (simTs_or (simT_not (callT (SimB.of (cB g (.builtin "isinstance") (op_isinstance g.ok) (aC (nB 2) (aC (SimB.of (gB g (.type "list"))) simBs_nil)))))) (simTs_or (cmpT (SimB.of (cB g (.builtin "len") op_len (aC (nB 2) simBs_nil))) (SimB.of (gI g 30 409)) op_gt) simTs_or_nil))) (simSs_cons (rais g 80 F.excBase_ValueError (vC sim_str simVs_nil)) simSs_nil) simSs_nil) (.cons (simS_If (simT_boolOp (simTs_or (simT_not (callT (SimB.of (cB g (.builtin "isinstance") (op_isinstance g.ok) (aC (nB 3) (aC (SimB.of (gB g (.type "list"))) simBs_nil)))))) (simTs_or (simT_not (chT (SimB.of sim_int) (SimB.of (cB g (.builtin "len") op_len (aC (nB 3) simBs_nil))) (SimB.of (gI g 4 411)) op_le op_le)) simTs_or_nil))) (simSs_cons (rais g 80 F.excBase_ValueError (vC sim_str simVs_nil)) simSs_nil) simSs_nil) (.cons (forS (simI_of (sim_BinOp (nB 2) (nB 3) op_addD)) (tgN 4) (simSs_cons (simS_Expr (SimB.of (cF g 165 (ok_need_places g) (aC (nB 1) (aC (nB 4) simBs_nil)))) (fun _ => rfl)) simSs_nil)) .nil)))) (tC (nV 1) (tC (cB g (.type "list") (op_list rfl) (aC (nB 2) simBs_nil)) (tC (cB g (.type "list") (op_list rfl) (aC (nB 3) simBs_nil)) .nil))) (len4 fun _ _ _ _ => by kernel_rfl)
noncomputable def f_law (K : W.Frag) : AEnv → Res Fl := (sSeq (sAssign 1 (eOp2 addD (eVal (eConst (.int 3))) (eVal (eOp2 modI (eVal (eCall (F_law_cell K) (eConsB (eOp 0) (eConsB (eVal (eConst (.int 0))) eNilB)))) (eVal (eConst (.int 10))))))) (sSeq (sAssign 2 (eOp2 modI (eVal (eCall (F_law_cell K) (eConsB (eOp 0) (eConsB (eVal (eConst (.int 1))) eNilB)))) (eVal (eConst (.int 12))))) (sSeq (sIf (eTest2 eqI (eVal (eOp2 modI (eVal (eOp2 divI (eVal (eCall (F_law_cell K) (eConsB (eOp 0) (eConsB (eVal (eConst (.int 1))) eNilB)))) (eVal (eConst (.int 12))))) (eVal (eConst (.int 16))))) (eVal (eConst (.int 1)))) (sSeq (sAssign 2 (eOp2 addD (eVal (eConst (.int 12))) (eVal (eOp2 modI (eVal (eOp2 divI (eVal (eCall (F_law_cell K) (eConsB (eOp 0) (eConsB (eVal (eConst (.int 1))) eNilB)))) (eVal (eConst (.int 192))))) (eVal (eConst (.int 19))))))) sNil) sNil) (sSeq (sAssign 3 (eCompI [none, none, some 1, some 0] (eItems (eOpN rangeI (eConsB (eOp 2) eNilB))) (bName 1) eAll (eCall (F_law_change K) (eConsB (eVal (eCall (F_law_mix K) (eConsB (eVal (eCall (F_law_cell K) (eConsB (eOp 3) (eConsB (eVal (eOp2 addD (eVal (eConst (.int 2))) (eVal (eOp2 modI (eOp 1) (eVal (eConst (.int 6))))))) eNilB)))) (eConsB (eVal (eOp2 divI (eOp 1) (eVal (eConst (.int 6))))) eNilB)))) (eConsB (eOp 2) eNilB))))) (sSeq (sAssign 4 (eMake 238 ["bells", "steps", "ways"] (I_Method K) (eConsB (eOp 1) (eConsB (eVal (eOpN listI (eConsB (eOp 3) eNilB))) (eConsB (eVal (eLst (eCons (eTup (eCons (eConst (.int 0)) eNil)) eNil))) eNilB))))) (sSeq (sAssign 5 (eCall (F_law_row K) (eConsB (eVal (eCall (F_law_cell K) (eConsB (eOp 0) (eConsB (eVal (eConst (.int 8))) eNilB)))) (eConsB (eOp 1) eNilB)))) (sSeq (sAssign 6 (eCall (F_law_other K) (eConsB (eVal (eCall (F_law_mix K) (eConsB (eVal (eCall (F_law_cell K) (eConsB (eOp 0) (eConsB (eVal (eConst (.int 9))) eNilB)))) (eConsB (eVal (eConst (.int 10))) eNilB)))) (eConsB (eOp 3) (eConsB (eOp 5) eNilB))))) (sSeq (sAssign 7 (eLst (eCons (eTup (eCons (eVar 5) (eCons (eVar 6) eNil))) (eCons (eTup (eCons (eVar 6) (eCons (eVar 5) eNil))) (eCons (eTup (eCons (eVar 5) (eCons (eVar 5) eNil))) (eCons (eTup (eCons (eVar 5) (eCons (eVar 6) eNil))) eNil)))))) (sSeq (sFor (eItems (eSlice (eOp 7) eNoPart (ePart (eVal (eOp2 addD (eVal (eConst (.int 1))) (eVal (eOp2 mulD (eVal (eConst (.int 3))) (eVal (eOpN intI (eConsB (eVal (eOp2 ltI (eOp 2) (eVal (eConst (.int 12))))) eNilB)))))))))) (bName 8) (sSeq (sIf (eNot (eTruth (eVal (eCall (F_law_same K) (eConsB (eVal (eCall (F_meets K) (eConsB (eOp 4) (eConsB (eVal (eOp2 idxI (eOp 8) (eVal (eConst (.int 0))))) (eConsB (eVal (eOp2 idxI (eOp 8) (eVal (eConst (.int 1))))) eNilB))))) (eConsB (eVal (eCall (F_law_due K) (eConsB (eOp 3) (eConsB (eVal (eOp2 idxI (eOp 8) (eVal (eConst (.int 0))))) (eConsB (eVal (eOp2 idxI (eOp 8) (eVal (eConst (.int 1))))) eNilB))))) eNilB)))))) (sSeq (sRet (eConst (.bool false))) sNil) sNil) sNil)) (sSeq (sAssign 9 (eOpN tupleI (eConsB (eVal (eCompI [none, none, some 1, some 5] (eItems (eVar 6)) (bName 1) eAll (eOp2 idxI (eVal (eCompI [none, none, some 1, some 3] (eItems (eOpN rangeI (eConsB (eOp 2) eNilB))) (bName 1) (eTest2 eqI (eVal (eOp2 idxI (eOp 3) (eOp 1))) (eOp 2)) (eVar 1))) (eVal (eConst (.int 0)))))) eNilB))) (sSeq (sAssign 10 (eOpN tupleI (eConsB (eVal (eOpN rangeI (eConsB (eOp 1) eNilB))) eNilB))) (sSeq (sAssign 11 (eCall (F_law_due K) (eConsB (eOp 3) (eConsB (eOp 5) (eConsB (eOp 6) eNilB))))) (sSeq (sIf (eOr (eTest2 neI (eVal (eCall (F_meets K) (eConsB (eOp 4) (eConsB (eOp 10) (eConsB (eOp 9) eNilB))))) (eOp 11)) (eOr (eTest2 neI (eVal (eCall (F_law_due K) (eConsB (eOp 3) (eConsB (eOp 10) (eConsB (eOp 9) eNilB))))) (eOp 11)) eOrNil)) (sSeq (sRet (eConst (.bool false))) sNil) sNil) (sSeq (sAssign 12 (eCall (F_law_cell K) (eConsB (eOp 0) (eConsB (eVal (eConst (.int 10))) eNilB)))) (sSeq (sAssign 13 (eOp2 addD (eVal (eSlice (eOp 5) eNoPart (ePart (eVal (eOp1 negI (eVal (eConst (.int 1)))))))) (eVal (eSlice (eOp 5) eNoPart (ePart (eVal (eConst (.int 1)))))))) (sSeq (sAssign 14 (eOp2 idxI (eVal (eLst (eCons (eOpN listI (eConsB (eOp 5) eNilB)) (eCons (eConst .none) (eCons (eSlice (eOp 5) (ePart (eVal (eConst (.int 1)))) eNoPart) (eCons (eVar 13) (eCons (eOpN tupleI (eConsB (eVal (eOpN rangeI (eConsB (eVal (eOp2 addD (eOp 1) (eVal (eConst (.int 1))))) eNilB))) eNilB)) (eCons (eOp2 addD (eVal (eTup (eCons (eConst (.str "0")) eNil))) (eVal (eSlice (eOp 5) (ePart (eVal (eConst (.int 1)))) eNoPart))) eNil)))))))) (eVal (eOp2 modI (eOp 12) (eVal (eConst (.int 6))))))) (sSeq (sRet (eBo .And (eVal (eOp2 eqI (eVal (eCall (F_law_told K) (eConsB (eOp 4) (eConsB (eOp 14) (eConsB (eOp 6) eNilB))))) (eVal (eLst (eCons (eConst (.str "refused")) (eCons (eConst (.str "row")) eNil)))))) (eOp2 eqI (eVal (eCall (F_law_told K) (eConsB (eOp 4) (eConsB (eOp 5) (eConsB (eOp 14) eNilB))))) (eVal (eLst (eCons (eConst (.str "refused")) (eCons (eConst (.str "row")) eNil))))))) sNil)))))))))))))))))
noncomputable def F_law (K : W.Frag) : List D → FOut := runI 15 [0] (f_law K)
theorem ok_law {p : Program} {w : World} {B : Heap} {mg mb : Str → Option Value} (g : Gr (gd p w B mg mb true)) : FnOK (gd p w B mg mb true) 7 (.ref 320) (F_law (gd p w B mg mb true).K) :=
  fnI g 320 15 [0] (f := f_law (gd p w B mg mb true).K) (simSs_cons (asg 1 (sim_BinOp (SimB.of sim_int) (SimB.of (sim_BinOp (SimB.of (cF g 249 (ok_law_cell g) (aC (nB 0) (aC (SimB.of sim_int) simBs_nil)))) (SimB.of sim_int) op_mod)) op_addD)) (simSs_cons (asg 2 (sim_BinOp (SimB.of (cF g 249 (ok_law_cell g) (aC (nB 0) (aC (SimB.of sim_int) simBs_nil)))) (SimB.of sim_int) op_mod)) (simSs_cons (simS_If (cmpT (SimB.of (sim_BinOp (SimB.of (sim_BinOp (SimB.of (cF g 249 (ok_law_cell g) (aC (nB 0) (aC (SimB.of sim_int) simBs_nil)))) (SimB.of sim_int) op_div)) (SimB.of sim_int) op_mod)) (SimB.of sim_int) op_eq) (simSs_cons (asg 2 (sim_BinOp (SimB.of sim_int) (SimB.of (sim_BinOp (SimB.of (sim_BinOp (SimB.of (cF g 249 (ok_law_cell g) (aC (nB 0) (aC (SimB.of sim_int) simBs_nil)))) (SimB.of sim_int) op_div)) (SimB.of sim_int) op_mod)) op_addD)) simSs_nil) simSs_nil) (simSs_cons (asgC 3 [none, none, some 1, some 0] (simI_of (cB g (.type "range") op_range (aC (nB 2) simBs_nil))) (tgN 1) simTF_nil (cF g 270 (ok_law_change g) (aC (SimB.of (cF g 256 (ok_law_mix g) (aC (SimB.of (cF g 249 (ok_law_cell g) (aC (nB 3) (aC (SimB.of (sim_BinOp (SimB.of sim_int) (SimB.of (sim_BinOp (nB 1) (SimB.of sim_int) op_mod)) op_addD)) simBs_nil)))) (aC (SimB.of (sim_BinOp (nB 1) (SimB.of sim_int) op_div)) simBs_nil)))) (aC (nB 2) simBs_nil)))) (simSs_cons (asg 4 (mak g 238 186 (ok_Method_init g) (aC (nB 1) (aC (SimB.of (cB g (.type "list") (op_list rfl) (aC (nB 3) simBs_nil))) (aC (SimB.of (sim_List (vC (sim_Tuple (vC sim_int simVs_nil)) simVs_nil))) simBs_nil))))) (simSs_cons (asg 5 (cF g 263 (ok_law_row g) (aC (SimB.of (cF g 249 (ok_law_cell g) (aC (nB 0) (aC (SimB.of sim_int) simBs_nil)))) (aC (nB 1) simBs_nil)))) (simSs_cons (asg 6 (cF g 315 (ok_law_other g) (aC (SimB.of (cF g 256 (ok_law_mix g) (aC (SimB.of (cF g 249 (ok_law_cell g) (aC (nB 0) (aC (SimB.of sim_int) simBs_nil)))) (aC (SimB.of sim_int) simBs_nil)))) (aC (nB 3) (aC (nB 5) simBs_nil))))) (simSs_cons (asg 7 (sim_List (vC (sim_Tuple (vC (nV 5) (vC (nV 6) simVs_nil))) (vC (sim_Tuple (vC (nV 6) (vC (nV 5) simVs_nil))) (vC (sim_Tuple (vC (nV 5) (vC (nV 5) simVs_nil))) (vC (sim_Tuple (vC (nV 5) (vC (nV 6) simVs_nil))) simVs_nil)))))) (simSs_cons (forS (simI_of (sim_Slice (nB 7) simP_none (simP_some (SimB.of (sim_BinOp (SimB.of sim_int) (SimB.of (sim_BinOp (SimB.of sim_int) (SimB.of (cB g (.type "int") op_int (aC (SimB.of (cmpV (nB 2) (SimB.of sim_int) op_lt)) simBs_nil))) op_mulD)) op_addD))))) (tgN 8) (simSs_cons (simS_If (simT_not (callT (SimB.of (cF g 308 (ok_law_same g) (aC (SimB.of (cF g 158 (ok_meets g) (aC (nB 4) (aC (SimB.of (sub (nB 8) (SimB.of sim_int))) (aC (SimB.of (sub (nB 8) (SimB.of sim_int))) simBs_nil))))) (aC (SimB.of (cF g 296 (ok_law_due g) (aC (nB 3) (aC (SimB.of (sub (nB 8) (SimB.of sim_int))) (aC (SimB.of (sub (nB 8) (SimB.of sim_int))) simBs_nil))))) simBs_nil)))))) (simSs_cons (simS_Return sim_bool) simSs_nil) simSs_nil) simSs_nil)) (simSs_cons (asg 9 (cB g (.type "tuple") (op_tuple rfl) (aC (SimB.of (lc [none, none, some 1, some 5] (simI_of (nV 6)) (tgN 1) simTF_nil (sub (SimB.of (lc [none, none, some 1, some 3] (simI_of (cB g (.type "range") op_range (aC (nB 2) simBs_nil))) (tgN 1) (simTF_one (cmpT (SimB.of (sub (nB 3) (nB 1))) (nB 2) op_eq)) (nV 1))) (SimB.of sim_int)))) simBs_nil))) (simSs_cons (asg 10 (cB g (.type "tuple") (op_tuple rfl) (aC (SimB.of (cB g (.type "range") op_range (aC (nB 1) simBs_nil))) simBs_nil))) (simSs_cons (asg 11 (cF g 296 (ok_law_due g) (aC (nB 3) (aC (nB 5) (aC (nB 6) simBs_nil))))) (simSs_cons (simS_If (simT_boolOp (simTs_or (cmpT (SimB.of (cF g 158 (ok_meets g) (aC (nB 4) (aC (nB 10) (aC (nB 9) simBs_nil))))) (nB 11) op_ne) (simTs_or (cmpT (SimB.of (cF g 296 (ok_law_due g) (aC (nB 3) (aC (nB 10) (aC (nB 9) simBs_nil))))) (nB 11) op_ne) simTs_or_nil))) (simSs_cons (simS_Return sim_bool) simSs_nil) simSs_nil) (simSs_cons (asg 12 (cF g 249 (ok_law_cell g) (aC (nB 0) (aC (SimB.of sim_int) simBs_nil)))) (simSs_cons (asg 13 (sim_BinOp (SimB.of (sim_Slice (nB 5) simP_none (simP_some (SimB.of (sim_UnaryOp (SimB.of sim_int) op_neg))))) (SimB.of (sim_Slice (nB 5) simP_none (simP_some (SimB.of sim_int)))) op_addD)) (simSs_cons (asg 14 (sub (SimB.of (sim_List (vC (cB g (.type "list") (op_list rfl) (aC (nB 5) simBs_nil)) (vC sim_none (vC (sim_Slice (nB 5) (simP_some (SimB.of sim_int)) simP_none) (vC (nV 13) (vC (cB g (.type "tuple") (op_tuple rfl) (aC (SimB.of (cB g (.type "range") op_range (aC (SimB.of (sim_BinOp (nB 1) (SimB.of sim_int) op_addD)) simBs_nil))) simBs_nil)) (vC (sim_BinOp (SimB.of (sim_Tuple (vC sim_str simVs_nil))) (SimB.of (sim_Slice (nB 5) (simP_some (SimB.of sim_int)) simP_none)) op_addD) simVs_nil)))))))) (SimB.of (sim_BinOp (nB 12) (SimB.of sim_int) op_mod)))) (simSs_cons (simS_Return (sim_BoolOp (simBo_cons (SimB.of (cmpV (SimB.of (cF g 303 (ok_law_told g) (aC (nB 4) (aC (nB 14) (aC (nB 6) simBs_nil))))) (SimB.of (sim_List (vC sim_str (vC sim_str simVs_nil)))) op_eq)) (simBo_one (cmpV (SimB.of (cF g 303 (ok_law_told g) (aC (nB 4) (aC (nB 5) (aC (nB 14) simBs_nil))))) (SimB.of (sim_List (vC sim_str (vC sim_str simVs_nil)))) op_eq))))) simSs_nil))))))))))))))))) (len1 fun _ => by kernel_rfl)
end Mine
end

section
set_option Elab.async false
set_option maxRecDepth 100000
namespace Mine
open PySem PySem.W PyProof.Rows
theorem law08_enter (hlaw : ∀ (P : Params) (ns : List Int), ns.length ≤ 63 → F_law (hd.heap_1 P) [.list (ns.map .int)] = .ok (.sh (.bool true))) : PySem.Challenge.rw_uf010040_08.Holds := by
  refine hd ?_
  intro w s₀ s₁ mg mb G Y a o pm cd doc dV kV ho hd' hcd hD hmg hg args vals as hpre hlay hrd hwl hlo
  have KX : (hd.heap_1 w.params).In s₁.heap := kIn_of Y
  have T := G.T
  have g : Gr (gd PySem.Challenge.rw_uf010040_08.row.toRowW.prog w s₁.heap mg mb true) := ⟨⟨T.g, T.b, T.nolimit, KX⟩, ⟨_, _, topRead_of T⟩, T.builtins⟩
  have e : mg "law" = some (.ref 320) := mg_of KX T.g (by kernel_rfl)
  have ea : a = 320 := by
    have h : mg "law" = some (.ref a) := hmg
    rw [e] at h
    cases h; rfl
  subst ea
  exact law_end (l := PySem.Challenge.rw_uf010040_08) (ok_law g) (by decide) hg (n := 63) rfl rfl hpre hrd (hlaw w.params)
end Mine
end

section
set_option Elab.async false
set_option maxRecDepth 100000
set_option maxHeartbeats 4000000
set_option linter.unusedSimpArgs false
set_option linter.unusedVariables false
namespace Mine
open PySem PySem.W
theorem F_is_whole_eq (K : Frag) (d : D) (h : calm d = true) : F_is_whole K [d] = .ok (.sh (.bool (isW d))) := by
  cases d with
  | range _ _ _ => cases h
  | exc _ => cases h
  | glob _ => cases h
  | dict _ _ => cases h
  | obj _ _ _ => cases h
  | none => kernel_rfl
  | bool b => kernel_rfl
  | int i => kernel_rfl
  | str x => kernel_rfl
  | tup ds => kernel_rfl
  | list ds => kernel_rfl
theorem isTuple_eq (K : Frag) (d : D) (h : calm d = true) : isInstI K [d, .glob (.type "tuple")] = some (.sh (.bool (match d with | .tup _ => true | _ => false))) := by
  cases d with
  | range _ _ _ => cases h
  | exc _ => cases h
  | glob _ => cases h
  | dict _ _ => cases h
  | obj _ _ _ => cases h
  | none => kernel_rfl
  | bool b => kernel_rfl
  | int i => kernel_rfl
  | str x => kernel_rfl
  | tup ds => kernel_rfl
  | list ds => kernel_rfl
theorem F_need_bells_ok (K : Frag) (n : Int) (h3 : 3 ≤ n) (h12 : n ≤ 12) : F_need_bells K [.int n] = .ok (.sh .none) := by
  have e : F_is_whole K [.int n] = .ok (.sh (.bool true)) := F_is_whole_eq K (.int n) rfl
  have e1 := leI_t h3
  have e2 := leI_t h12
  unfold F_need_bells f_need_bells
  refine' run_of [some (.sh (.int n))] rfl rfl ?_ fin_next
  repeat' (first | (with_reducible first | assumption | exact v_sh | exact tg_sh | exact look0 | exact g_val | apply g_var | exact ga_nil | apply ga_cons | exact const_of | exact nilB_of | exact orNil_of | exact sNil_of | apply op_of | apply val_of | apply consB_of | apply call_of | apply truth_of | apply not_of | apply or_of | apply chain_of | apply seq_of | apply if_of | apply ValK.ok | apply CallK.ok | apply ConsBL.ok | apply ConsBK.ok | apply TruthK.ok | apply ChainN.ok | apply ChainL.ok | apply ChainK.ok | exact NotK.t | apply OrK.f | apply ChainM.t | apply SeqK.next | apply IfK.f) | exact ce_ok rfl | exact (rfl : listFree _ = true) | exact (rfl : (_ : Option _) = some _) | decide)
theorem F_is_row_other (K : Frag) (d : D) (h : calm d = true) (ht : ∀ ds, d ≠ .tup ds) : F_is_row K [d] = .ok (.sh (.bool false)) := by
  have e := isTuple_eq K d h
  have e' : isInstI K [d, .glob (.type "tuple")] = some (.sh (.bool false)) := by
    rw [e]
    cases d <;> first | rfl | exact absurd rfl (ht _)
  clear e
  unfold F_is_row f_is_row
  refine' run_of [some (.sh d)] rfl rfl ?_ fin_ret
  repeat' (first | (with_reducible first | assumption | exact v_sh | exact tg_sh | exact look0 | exact g_val | apply g_var | exact ga_nil | apply ga_cons | exact const_of | exact nilB_of | apply op_of | apply val_of | apply opN_of | apply consB_of | apply truth_of | apply not_of | apply or_of | apply seq_of | apply if_of | apply ret_of | apply ValK.ok | apply OpNK.ok | apply ConsBL.ok | apply ConsBK.ok | apply TruthK.ok | apply RetK.ok | exact NotK.f | exact OrK.t | exact SeqK.ret | apply IfK.t) | exact (rfl : listFree _ = true) | exact (rfl : (_ : Option _) = some _) | decide)
theorem F_is_row_len (K : Frag) (ds : List D) (hl : ds.length ≤ 1000000) (h : ¬ (3 ≤ ds.length ∧ ds.length ≤ 12)) : F_is_row K [.tup ds] = .ok (.sh (.bool false)) := by
  have e' : isInstI K [.tup ds, .glob (.type "tuple")] = some (.sh (.bool true)) := isTuple_eq K (.tup ds) rfl
  have e2 := lenI_tup hl
  unfold F_is_row f_is_row
  refine' run_of [some (.sh (.tup ds))] rfl rfl ?_ fin_ret
  by_cases h3 : 3 ≤ ds.length
  · have h12 : ¬ ((ds.length : Int) ≤ 12) := fun q => h ⟨h3, by omega⟩
    have h3' : (3 : Int) ≤ ds.length := by omega
    have e3 := leI_t h3'
    have e4 := leI_f h12
    repeat' (first | (with_reducible first | assumption | exact v_sh | exact tg_sh | exact look0 | exact g_val | apply g_var | exact ga_nil | apply ga_cons | exact const_of | exact nilB_of | apply op_of | apply val_of | apply opN_of | apply consB_of | apply truth_of | apply not_of | apply or_of | apply chain_of | apply seq_of | apply if_of | apply ret_of | apply ValK.ok | apply OpNK.ok | apply ConsBL.ok | apply ConsBK.ok | apply TruthK.ok | apply ChainN.ok | apply ChainL.ok | apply ChainK.ok | apply RetK.ok | exact NotK.t | exact NotK.f | exact OrK.t | apply OrK.f | apply ChainM.t | exact ChainM.f | exact SeqK.ret | apply IfK.t) | exact (rfl : listFree _ = true) | exact (rfl : (_ : Option _) = some _) | decide)
  · have h3' : ¬ ((3 : Int) ≤ ds.length) := by omega
    have e3 := leI_f h3'
    repeat' (first | (with_reducible first | assumption | exact v_sh | exact tg_sh | exact look0 | exact g_val | apply g_var | exact ga_nil | apply ga_cons | exact const_of | exact nilB_of | apply op_of | apply val_of | apply opN_of | apply consB_of | apply truth_of | apply not_of | apply or_of | apply chain_of | apply seq_of | apply if_of | apply ret_of | apply ValK.ok | apply OpNK.ok | apply ConsBL.ok | apply ConsBK.ok | apply TruthK.ok | apply ChainN.ok | apply ChainL.ok | apply ChainK.ok | apply RetK.ok | exact NotK.t | exact NotK.f | exact OrK.t | apply OrK.f | apply ChainM.t | exact ChainM.f | exact SeqK.ret | apply IfK.t) | exact (rfl : listFree _ = true) | exact (rfl : (_ : Option _) = some _) | decide)
theorem comp_whole (K : Frag) (ds : List D) (hl : ds.length ≤ 1000000) (h : ∀ d ∈ ds, calm d = true) : compN (bName 1) eAll (eCall (F_is_whole K) (eConsB (eOp 1) eNilB)) [none, none] ds [] = some (ds.map fun d => .bool (isW d)) := by
  refine compN_map ds (fun d hd => ?_) hl
  have e := F_is_whole_eq K d (h d hd)
  refine ⟨[none, some (.sh d)], .sh (.bool (isW d)), [none, some (.sh d)], rfl, ?_, rfl⟩
  repeat' (first | (with_reducible first | assumption | exact tg_sh | exact look0 | apply lookS | apply g_var | exact ga_nil | apply ga_cons | exact nilB_of | apply op_of | apply consB_of | apply call_of | apply CallK.ok | apply ConsBL.ok | apply ConsBK.ok) | exact ce_ok rfl | exact (rfl : listFree _ = true) | exact (rfl : (_ : Option _) = some _) | decide)
theorem boolsOf_map' (g : D → Bool) (ds : List D) : boolsOf (ds.map fun d => .bool (g d)) = some (ds.map g) := by
  have := boolsOf_map (ds.map g)
  rwa [List.map_map] at this
theorem calm_iL (ns : List Int) : ∀ d ∈ iL ns, calm d = true := fun d hd => by
  obtain ⟨i, _, rfl⟩ := List.mem_map.mp hd; rfl
theorem isW_iL (ns : List Int) : (iL ns).all isW = true := List.all_eq_true.mpr fun d hd => by
  obtain ⟨i, _, rfl⟩ := List.mem_map.mp hd; rfl
theorem iL_length (ns : List Int) : (iL ns).length = ns.length := by simp [iL]
theorem F_is_row_notW (K : Frag) (ds : List D) (h3 : 3 ≤ ds.length) (h12 : ds.length ≤ 12) (hc : ∀ d ∈ ds, calm d = true) (hw : ds.all isW = false) : F_is_row K [.tup ds] = .ok (.sh (.bool false)) := by
  have e' : isInstI K [.tup ds, .glob (.type "tuple")] = some (.sh (.bool true)) := isTuple_eq K (.tup ds) rfl
  have hl : ds.length ≤ 1000000 := by omega
  have cw := comp_whole K ds hl hc
  have e2 := lenI_tup hl
  have e3 := leI_t (show (3 : Int) ≤ ds.length by omega)
  have e4 := leI_t (show (ds.length : Int) ≤ 12 by omega)
  have hw' : (ds.map isW).all id = false := by rw [List.all_map]; exact hw
  have e5 : allI [.list (ds.map fun d => .bool (isW d))] = some (.sh (.bool false)) := by rw [allI_of (boolsOf_map' _ _), ← hw']
  unfold F_is_row f_is_row
  refine' run_of [some (.sh (.tup ds))] rfl rfl ?_ fin_ret
  repeat' (first | (with_reducible first | assumption | exact v_sh | exact v_ow | exact tg_sh | exact look0 | exact g_val | apply g_var | exact ga_nil | apply ga_cons | exact ci_nil | apply ci_none | exact const_of | exact nilB_of | exact orNil_of | exact sNil_of | apply op_of | apply val_of | apply opN_of | apply consB_of | apply truth_of | apply not_of | apply or_of | apply chain_of | apply items_of | apply compI_of | apply seq_of | apply if_of | apply ret_of | apply ValK.ok | apply OpNK.ok | apply ConsBL.ok | apply ConsBK.ok | apply TruthK.ok | apply ChainN.ok | apply ChainL.ok | apply ChainK.ok | apply ItemsK.ok | apply RetK.ok | exact NotK.t | exact NotK.f | apply OrK.f | apply ChainM.t | apply SeqK.next | exact SeqK.ret | apply IfK.t | apply IfK.f) | exact (rfl : listFree _ = true) | exact var_sh rfl | exact (rfl : (_ : Option _) = some _) | decide)
theorem F_is_row_ints (K : Frag) (ns : List Int) (h3 : 3 ≤ ns.length) (h12 : ns.length ≤ 12) : F_is_row K [.tup (iL ns)] = .ok (.sh (.bool (eqB (sortI ns) (rng ns.length)))) := by
  have e' : isInstI K [.tup (iL ns), .glob (.type "tuple")] = some (.sh (.bool true)) := isTuple_eq K (.tup (iL ns)) rfl
  have hl : (iL ns).length ≤ 1000000 := by rw [iL_length]; omega
  have cw := comp_whole K (iL ns) hl (calm_iL ns)
  have e2 := lenI_tup hl
  rw [iL_length] at e2
  have e3 := leI_t (show (3 : Int) ≤ ns.length by omega)
  have e4 := leI_t (show (ns.length : Int) ≤ 12 by omega)
  have hw' : ((iL ns).map isW).all id = true := by rw [List.all_map]; exact isW_iL ns
  have e5 : allI [.list ((iL ns).map fun d => .bool (isW d))] = some (.sh (.bool true)) := by rw [allI_of (boolsOf_map' _ _), ← hw']
  have e6 : sortedI [.tup (iL ns)] = some (.ow true (.list (iL (sortI ns)))) := sortedI_t (intsOf_iL ns) (by omega)
  have e7 : listI [.range 0 ns.length 1] = some (.ow true (.list (iL (rng ns.length)))) := by rw [listI_r (rangeFit_rng _ (by omega)), rangeL_rng]
  have e8 := eqI_list (sortI ns) (rng ns.length)
  unfold F_is_row f_is_row
  refine' run_of [some (.sh (.tup (iL ns)))] rfl rfl ?_ fin_ret
  repeat' (first | (with_reducible first | assumption | exact v_sh | exact v_ow | exact tg_sh | exact look0 | exact g_val | apply g_var | exact ga_nil | apply ga_cons | exact ci_nil | apply ci_none | exact const_of | exact nilB_of | exact orNil_of | exact sNil_of | apply op_of | apply val_of | apply opN_of | apply consB_of | apply op2_of | apply truth_of | apply not_of | apply or_of | apply chain_of | apply items_of | apply compI_of | apply seq_of | apply if_of | apply ret_of | apply ValK.ok | apply Op2K.ok | apply Op2L.ok | apply OpNK.ok | apply ConsBL.ok | apply ConsBK.ok | apply TruthK.ok | apply ChainN.ok | apply ChainL.ok | apply ChainK.ok | apply ItemsK.ok | apply RetK.ok | exact NotK.t | apply OrK.f | apply ChainM.t | apply SeqK.next | exact SeqK.ret | apply IfK.f) | exact (rfl : listFree _ = true) | exact var_sh rfl | exact (rfl : (_ : Option _) = some _) | decide)
structure Row (n : Nat) (ns : List Int) : Prop where
  perm : ns.Perm (rng n)
  h3 : 3 ≤ n
  h12 : n ≤ 12
theorem Row.len {n : Nat} {ns : List Int} (r : Row n ns) : ns.length = n := by rw [r.perm.length_eq, rng_length]
theorem F_is_row_row (K : Frag) {n : Nat} {ns : List Int} (r : Row n ns) : F_is_row K [.tup (iL ns)] = .ok (.sh (.bool true)) := by
  rw [F_is_row_ints K ns (by rw [r.len]; exact r.h3) (by rw [r.len]; exact r.h12), r.len, eqB_true.mpr (sortI_rng.mpr r.perm)]
theorem F_is_row_bad (K : Frag) (ns : List Int) (h3 : 3 ≤ ns.length) (h12 : ns.length ≤ 12) (h : ¬ ns.Perm (rng ns.length)) : F_is_row K [.tup (iL ns)] = .ok (.sh (.bool false)) := by
  rw [F_is_row_ints K ns h3 h12, eqB_false.mpr fun q => h (sortI_rng.mp q)]
theorem tuple_rng (n : Nat) (h : n ≤ 1000000) : tupleI [.range 0 n 1] = some (.sh (.tup (iL (rng n)))) := by rw [tupleI_r (rangeFit_rng _ h), rangeL_rng]
theorem list_rng (n : Nat) (h : n ≤ 1000000) : listI [.range 0 n 1] = some (.ow true (.list (iL (rng n)))) := by rw [listI_r (rangeFit_rng _ h), rangeL_rng]
theorem items_rng (n : Nat) (h : n ≤ 1000000) : itemsD (.range 0 n 1) = some (iL (rng n)) := by rw [itemsD_r (rangeFit_rng _ h), rangeL_rng]
noncomputable def at' (a : List Int) (j : Int) : Int := a.getD j.toNat 0
theorem mem_rng {n : Nat} {i : Int} : i ∈ rng n ↔ 0 ≤ i ∧ i < n := by
  unfold rng
  rw [List.mem_map]
  constructor
  · rintro ⟨k, hk, rfl⟩
    have := List.mem_range.mp hk
    omega
  · rintro ⟨h0, h1⟩
    exact ⟨i.toNat, List.mem_range.mpr (by omega), by omega⟩
theorem Row.mem {n : Nat} {a : List Int} (r : Row n a) {i : Int} : i ∈ a ↔ 0 ≤ i ∧ i < n := by rw [r.perm.mem_iff]; exact mem_rng
theorem iL_get {a : List Int} {j : Nat} (h : j < a.length) : (iL a)[j]? = some (.int (a.getD j 0)) := by
  unfold iL
  rw [List.getElem?_map, List.getElem?_eq_getElem h, List.getD_eq_getElem?_getD, List.getElem?_eq_getElem h]; rfl
theorem idx_row {a : List Int} {j : Int} (h0 : 0 ≤ j) (h1 : j < a.length) (hl : a.length ≤ 1000) : idxI (.tup (iL a)) (.int j) = some (.sh (.int (at' a j))) :=
  idxI_tup h0 (by omega) (iL_get (by omega))
noncomputable def comp (a b : List Int) : List Int := b.map (at' a)
theorem tuple_list {ds : List D} (h : ds.length ≤ 1000000) : tupleI [.list ds] = some (.sh (.tup ds)) := tupleI_l h
structure Inv (n : Nat) (a f : List Int) : Prop where
  len : f.length = n
  at_ : ∀ p : Nat, p < n → f[(a.getD p 0).toNat]? = some (p : Int)
theorem Row.nodup {n : Nat} {a : List Int} (r : Row n a) : a.Nodup := by
  rw [r.perm.nodup_iff]
  unfold rng List.Nodup
  rw [List.pairwise_map]
  exact (List.pairwise_lt_range (n := n)).imp fun h => by omega
theorem Row.inj {n : Nat} {a : List Int} (r : Row n a) {p q : Nat} (hp : p < n) (hq : q < n) (h : a.getD p 0 = a.getD q 0) : p = q := by
  have hp' : p < a.length := by rw [r.len]; exact hp
  have hq' : q < a.length := by rw [r.len]; exact hq
  rw [List.getD_eq_getElem?_getD, List.getD_eq_getElem?_getD, List.getElem?_eq_getElem hp', List.getElem?_eq_getElem hq'] at h
  exact (List.getElem_inj r.nodup).mp h
theorem Row.surj {n : Nat} {a : List Int} (r : Row n a) {b : Nat} (hb : b < n) : ∃ p, p < n ∧ a.getD p 0 = (b : Int) := by
  have : (b : Int) ∈ a := r.mem.mpr ⟨by omega, by omega⟩
  obtain ⟨p, hp, e⟩ := List.mem_iff_getElem.mp this
  exact ⟨p, by rw [← r.len]; exact hp, by rw [List.getD_eq_getElem?_getD, List.getElem?_eq_getElem hp]; exact e⟩
theorem Row.at_lt {n : Nat} {a : List Int} (r : Row n a) {p : Nat} (hp : p < n) : 0 ≤ a.getD p 0 ∧ a.getD p 0 < n := by
  have hp' : p < a.length := by rw [r.len]; exact hp
  refine r.mem.mp ?_
  rw [List.getD_eq_getElem?_getD, List.getElem?_eq_getElem hp']
  exact List.getElem_mem _
theorem Inv.comp1 {n : Nat} {a f : List Int} (r : Row n a) (hf : Inv n a f) : comp a f = rng n := by
  apply List.ext_getElem?
  intro b
  unfold comp rng
  rw [List.getElem?_map, List.getElem?_map]
  by_cases hb : b < n
  · obtain ⟨p, hp, e⟩ := r.surj hb
    have h1 := hf.at_ p hp
    rw [e, Int.toNat_natCast] at h1
    rw [h1, List.getElem?_range hb]
    show some (at' a p) = some (b : Int)
    unfold at'
    rw [Int.toNat_natCast, e]
  · rw [List.getElem?_eq_none (by rw [hf.len]; omega), List.getElem?_eq_none (by rw [List.length_range]; omega)]; rfl
theorem Inv.comp2 {n : Nat} {a f : List Int} (r : Row n a) (hf : Inv n a f) : comp f a = rng n := by
  apply List.ext_getElem?
  intro p
  unfold comp rng
  rw [List.getElem?_map, List.getElem?_map]
  by_cases hp : p < n
  · have hp' : p < a.length := by rw [r.len]; exact hp
    have h1 := hf.at_ p hp
    rw [List.getD_eq_getElem?_getD, List.getElem?_eq_getElem hp'] at h1
    rw [List.getElem?_eq_getElem hp', List.getElem?_range hp]
    show some (at' f a[p]) = some (p : Int)
    unfold at'
    rw [List.getD_eq_getElem?_getD]
    show some ((f[a[p].toNat]?).getD 0) = _
    have h1' : f[a[p].toNat]? = some (p : Int) := h1
    rw [h1']; rfl
  · rw [List.getElem?_eq_none (by rw [r.len]; omega), List.getElem?_eq_none (by rw [List.length_range]; omega)]; rfl
theorem self_map {n : Nat} {f : List Int} (h : f.length = n) : comp f (rng n) = f := by
  apply List.ext_getElem?
  intro p
  unfold comp rng
  rw [List.map_map, List.getElem?_map]
  by_cases hp : p < n
  · rw [List.getElem?_range hp, List.getElem?_eq_getElem (by omega)]
    show some (at' f (p : Int)) = _
    unfold at'
    rw [Int.toNat_natCast, List.getD_eq_getElem?_getD, List.getElem?_eq_getElem (by omega)]; rfl
  · rw [List.getElem?_eq_none (by rw [List.length_range]; omega), List.getElem?_eq_none (by omega)]; rfl
theorem Inv.row {n : Nat} {a f : List Int} (r : Row n a) (hf : Inv n a f) : Row n f := by
  refine ⟨?_, r.h3, r.h12⟩
  have h1 := hf.comp2 r
  have h2 : (comp f a).Perm (comp f (rng n)) := r.perm.map _
  rw [h1, self_map hf.len] at h2
  exact h2.symm
theorem iL_set (f : List Int) (j : Nat) (v : Int) : (iL f).set j (.int v) = iL (f.set j v) := by unfold iL; rw [List.map_set]
theorem F_law_cell_ok (K : Frag) (ns : List Int) (k : Nat) (hl : ns.length ≤ 63) : F_law_cell K [.list (iL ns), .int k] = .ok (.sh (.int (ns.getD k 0))) := by
  have e1 := lenI_list (ds := iL ns) (by rw [iL_length]; omega)
  rw [iL_length] at e1
  unfold F_law_cell f_law_cell
  refine' run_of [some (.sh (.list (iL ns))), some (.sh (.int k))] rfl rfl ?_ fin_ret
  by_cases h : k < ns.length
  · have e2 := ltI_t (a := (k : Int)) (b := ns.length) (by omega)
    have e3 : idxI (.list (iL ns)) (.int k) = some (.sh (.int (ns.getD k 0))) := idxI_list (by omega) (by omega) (by rw [Int.toNat_natCast]; exact iL_get h)
    repeat' (first | (with_reducible first | assumption | exact v_sh | exact tg_sh | exact look0 | apply lookS | exact g_val | apply g_var | exact ga_nil | apply ga_cons | exact const_of | exact nilB_of | exact sNil_of | apply op_of | apply val_of | apply opN_of | apply consB_of | apply op2_of | apply test2_of | apply seq_of | apply if_of | apply ret_of | apply ValK.ok | apply Op2K.ok | apply Op2L.ok | apply OpNK.ok | apply ConsBL.ok | apply ConsBK.ok | apply Test2L.ok | apply Test2K.ok | apply RetK.ok | apply SeqK.next | exact SeqK.ret | apply IfK.t | apply IfK.f) | exact (rfl : listFree _ = true) | exact (rfl : (_ : Option _) = some _) | decide)
  · have e2 := ltI_f (a := (k : Int)) (b := ns.length) (by omega)
    rw [show ns.getD k 0 = 0 by rw [List.getD_eq_getElem?_getD, List.getElem?_eq_none (by omega)]; rfl]
    repeat' (first | (with_reducible first | assumption | exact v_sh | exact tg_sh | exact look0 | apply lookS | exact g_val | apply g_var | exact ga_nil | apply ga_cons | exact const_of | exact nilB_of | exact sNil_of | apply op_of | apply val_of | apply opN_of | apply consB_of | apply op2_of | apply test2_of | apply seq_of | apply if_of | apply ret_of | apply ValK.ok | apply Op2K.ok | apply Op2L.ok | apply OpNK.ok | apply ConsBL.ok | apply ConsBK.ok | apply Test2L.ok | apply Test2K.ok | apply RetK.ok | apply SeqK.next | exact SeqK.ret | apply IfK.t | apply IfK.f) | exact (rfl : listFree _ = true) | exact (rfl : (_ : Option _) = some _) | decide)
noncomputable def mix (c k : Int) : Int := (c * 48271 + 7919 * k * k + 104729 * k + 12345).fmod 2147483647
theorem fmod_nonneg (a : Int) {b : Int} (h : 0 < b) : 0 ≤ a.fmod b := by rw [Int.fmod_eq_emod_of_nonneg _ (by omega)]; exact Int.emod_nonneg _ (by omega)
theorem fmod_lt (a : Int) {b : Int} (h : 0 < b) : a.fmod b < b := by rw [Int.fmod_eq_emod_of_nonneg _ (by omega)]; exact Int.emod_lt_of_pos _ h
theorem F_law_mix_ok (K : Frag) (c k : Int) (hk : small k = true) : F_law_mix K [.int c, .int k] = .ok (.sh (.int (mix c k))) := by
  have e1 : mulD (.int (7919 * k)) (.int k) = some (.sh (.int (7919 * k * k))) := mulD_of (by rw [hk, Bool.or_true])
  have e2 : mulD (.int 7919) (.int k) = some (.sh (.int (7919 * k))) := mulD_of (by rw [hk, Bool.or_true])
  have e3 : mulD (.int 104729) (.int k) = some (.sh (.int (104729 * k))) := mulD_of (by rw [hk, Bool.or_true])
  have e4 : mulD (.int c) (.int 48271) = some (.sh (.int (c * 48271))) := mulD_of (by rw [small_of (b := 48271) (by decide), Bool.or_true])
  unfold F_law_mix f_law_mix
  refine' run_of [some (.sh (.int c)), some (.sh (.int k))] rfl rfl ?_ fin_ret
  unfold mix
  repeat' (first | (with_reducible first | assumption | exact v_sh | exact tg_sh | exact look0 | apply lookS | exact g_val | apply g_var | exact const_of | apply op_of | apply val_of | apply op2_of | apply seq_of | apply ret_of | apply modI_of | apply mulD_of | apply ValK.ok | apply Op2K.ok | apply Op2L.ok | apply RetK.ok | exact SeqK.ret) | exact (rfl : listFree _ = true) | exact (rfl : (_ : Option _) = some _) | decide)
theorem perm_pop (l : List Int) (j : Nat) (h : j < l.length) : (l.getD j 0 :: l.eraseIdx j).Perm l := by
  induction l generalizing j with
  | nil => cases h
  | cons x l ih =>
    cases j with
    | zero => exact .refl _
    | succ j =>
      rw [List.eraseIdx_cons_succ]
      exact (List.Perm.swap _ _ _).trans ((ih j (by simpa using h)).cons x)
theorem iL_erase (l : List Int) (j : Nat) : (iL l).eraseIdx j = iL (l.eraseIdx j) := by 
  induction l generalizing j with
  | nil => rfl
  | cons x l ih =>
    cases j with
    | zero => rfl
    | succ j =>
      show _ :: (iL l).eraseIdx j = _ :: iL (l.eraseIdx j)
      rw [ih]
theorem iL_app (l m : List Int) : iL l ++ iL m = iL (l ++ m) := by unfold iL; rw [List.map_append]
theorem row_loop (K : Frag) (c : Int) (n : Nat) (h12 : n ≤ 12) : ∃ found v, forN (bName 4) (sSeq (sExpr (eVal (eAppend 3 (ePop 2 (eVal (eOp2 modI (eVal (eOp2 divI (eVal (eCall (F_law_mix K) (eConsB (eOp 0) (eConsB (eOp 4) eNilB)))) (eVal (eConst (.int 7))))) (eVal (eOpN lenI (eConsB (eOp 2) eNilB))))))))) sNil) (iL (rng n)) [some (.sh (.int c)), some (.sh (.int n)), some (.ow true (.list (iL (rng n)))), some (.ow true (.list [])), none] = .ok .next [some (.sh (.int c)), some (.sh (.int n)), some (.ow true (.list [])), some (.ow true (.list (iL found))), v] ∧ found.Perm (rng n) := by
  obtain ⟨ρ', h1, left, found, v, rfl, hp, hl, hm⟩ := forN_ex (b := bName 4) (sf := (sSeq (sExpr (eVal (eAppend 3 (ePop 2 (eVal (eOp2 modI (eVal (eOp2 divI (eVal (eCall (F_law_mix K) (eConsB (eOp 0) (eConsB (eOp 4) eNilB)))) (eVal (eConst (.int 7))))) (eVal (eOpN lenI (eConsB (eOp 2) eNilB))))))))) sNil)) (fun ρ ds => ∃ (left found : List Int) (v : Option T), ρ = [some (.sh (.int c)), some (.sh (.int n)), some (.ow true (.list (iL left))), some (.ow true (.list (iL found))), v] ∧ (found ++ left).Perm (rng n) ∧ left.length = ds.length ∧ ∀ d ∈ ds, ∃ k : Int, d = .int k ∧ small k = true) (by
    rintro ρ d ds ⟨left, found, v, rfl, hp, hl, hm⟩
    obtain ⟨k, rfl, hk⟩ := hm d (.head _)
    have hn : (found ++ left).length = n := by rw [hp.length_eq, rng_length]
    rw [List.length_append] at hn
    rw [List.length_cons] at hl
    have e1 := F_law_mix_ok K c k hk
    have hl' : (iL left).length ≤ 1000000 := by rw [iL_length]; omega
    have hf' : (iL found).length ≤ 1000000 := by rw [iL_length]; omega
    have e2 := lenI_list hl'
    rw [iL_length] at e2
    have e3 : modI (.int ((mix c k).fdiv 7)) (.int left.length) = some (.sh (.int (((mix c k).fdiv 7).fmod left.length))) := modI_of (by omega)
    generalize hj : ((mix c k).fdiv 7).fmod left.length = j at e3
    have hj0 : 0 ≤ j := by rw [← hj]; exact fmod_nonneg _ (by omega)
    have hj1 : j < left.length := by rw [← hj]; exact fmod_lt _ (by omega)
    have e4 : (0 : Int) ≤ j ∧ j < ((iL left).length : Int) := by rw [iL_length]; exact ⟨hj0, hj1⟩
    have e5 : (iL left)[j.toNat]? = some (.int (left.getD j.toNat 0)) := iL_get (by omega)
    refine ⟨[some (.sh (.int c)), some (.sh (.int n)), some (.ow true (.list (iL left))), some (.ow true (.list (iL found))), some (.sh (.int k))], [some (.sh (.int c)), some (.sh (.int n)), some (.ow true (.list (iL (left.eraseIdx j.toNat)))), some (.ow true (.list (iL (found ++ [left.getD j.toNat 0])))), some (.sh (.int k))], rfl, ?_, _, _, _, rfl, ?_, ?_, fun d hd => hm d (.tail _ hd)⟩
    · rw [← iL_app, ← iL_erase]
      show _ = Res.ok Fl.next [some (.sh (.int c)), some (.sh (.int n)), some (.ow true (.list ((iL left).eraseIdx j.toNat))), some (.ow true (.list (iL found ++ [.int (left.getD j.toNat 0)]))), some (.sh (.int k))]
      repeat' (first | (with_reducible first | assumption | exact v_sh | exact tg_sh | exact tg_ow | exact look0 | apply lookS | exact set0 | apply setS | exact g_val | apply g_var | exact ga_nil | apply ga_cons | apply own_of | exact const_of | exact nilB_of | exact sNil_of | apply op_of | apply val_of | apply opN_of | apply consB_of | apply op2_of | apply call_of | apply append_of | apply pop_of | apply seq_of | apply expr_of | apply modI_of | apply divI_of | apply ValK.ok | apply Op2K.ok | apply Op2L.ok | apply OpNK.ok | apply CallK.ok | apply ConsBL.ok | apply ConsBK.ok | apply ExprK.ok | apply SeqK.next) | exact ce_ok rfl | exact (rfl : listFree _ = true) | exact (rfl : (_ : Option _) = some _) | decide)
    · rw [List.append_assoc]
      exact ((perm_pop left j.toNat (by omega)).append_left found).trans hp
    · rw [List.length_eraseIdx_of_lt (by omega)]; omega) (iL (rng n)) _ ⟨rng n, [], none, rfl, .refl _, by rw [rng_length, iL_length, rng_length], fun d hd => by
      obtain ⟨i, hi, rfl⟩ := List.mem_map.mp hd
      have := mem_rng.mp hi
      exact ⟨i, rfl, small_of (by omega)⟩⟩
  have : left = [] := List.length_eq_zero_iff.mp hl
  subst this
  rw [List.append_nil] at hp
  exact ⟨found, v, h1, hp⟩
theorem F_law_row_ok (K : Frag) (c : Int) (n : Nat) (h3 : 3 ≤ n) (h12 : n ≤ 12) : ∃ a, F_law_row K [.int c, .int n] = .ok (.sh (.tup (iL a))) ∧ Row n a := by
  obtain ⟨found, v, h1, hp⟩ := row_loop K c n h12
  refine ⟨found, ?_, hp, h3, h12⟩
  have e1 := list_rng n (by omega)
  have e2 := items_rng n (by omega)
  have e3 := tuple_list (ds := iL found) (by rw [iL_length, hp.length_eq, rng_length]; omega)
  unfold F_law_row f_law_row
  refine' run_of [some (.sh (.int c)), some (.sh (.int n)), none, none, none] rfl rfl ?_ fin_ret
  repeat' (first | (with_reducible first | assumption | exact v_sh | exact tg_sh | exact tg_ow | exact look0 | apply lookS | exact set0 | apply setS | exact g_val | apply g_var | exact ga_nil | apply ga_cons | exact len0 | exact nilB_of | exact nil_of | apply op_of | apply val_of | apply opN_of | apply consB_of | apply lst_of | apply items_of | apply seq_of | apply ret_of | apply asg_of | apply for_of | apply ValK.ok | apply OpNK.ok | apply ConsBL.ok | apply ConsBK.ok | apply LstK.ok | apply ItemsK.ok | apply RetK.ok | apply AsgK.ok | apply ForK.ok | apply SeqK.next | exact SeqK.ret) | exact (rfl : listFree _ = true) | exact (rfl : (_ : Option _) = some _) | decide)
theorem fmod_nat (a : Int) {n : Nat} (h : 0 < n) : ∃ p : Nat, a.fmod n = p ∧ p < n := by
  have h0 := fmod_nonneg a (b := n) (by omega)
  have h1 := fmod_lt a (b := n) (by omega)
  exact ⟨(a.fmod n).toNat, by omega, by omega⟩
theorem turn_inner {n : Nat} {a : List Int} (r : Row n a) (b : Int) : compN (bName 1) (eTest2 eqI (eVal (eOp2 idxI (eOp 3) (eOp 1))) (eOp 2)) (eVar 1) [none, none, some (.sh (.int b)), some (.sh (.tup (iL a)))] (iL (rng n)) [] = some (iL ((rng n).filter fun k => eqZ (at' a k) b)) := by
  have h12 := r.h12
  have := compN_step (b := bName 1) (t := eTest2 eqI (eVal (eOp2 idxI (eOp 3) (eOp 1))) (eOp 2)) (f := eVar 1) (ρ₀ := [none, none, some (.sh (.int b)), some (.sh (.tup (iL a)))]) (q := fun d => match d with | .int k => eqZ (at' a k) b | _ => false) (g := fun d => d) (iL (rng n)) [] (fun d hd => ?_) (by rw [iL_length, rng_length]; simp; omega)
  · rw [this]
    unfold iL
    rw [List.filter_map, List.map_id', List.nil_append]
    rfl
  · obtain ⟨k, hk, rfl⟩ := List.mem_map.mp hd
    have hk' := mem_rng.mp hk
    have e1 := idx_row (a := a) hk'.1 (by rw [r.len]; exact hk'.2) (by rw [r.len]; omega)
    have e2 := eqI_int (at' a k) b
    refine ⟨[none, some (.sh (.int k)), some (.sh (.int b)), some (.sh (.tup (iL a)))], [none, some (.sh (.int k)), some (.sh (.int b)), some (.sh (.tup (iL a)))], rfl, ?_, fun _ => ⟨.sh (.int k), _, rfl, rfl⟩⟩
    show _ = Res.ok (eqZ (at' a k) b) _
    repeat' (first | (with_reducible first | assumption | exact v_sh | exact tg_sh | exact look0 | apply lookS | exact g_val | apply g_var | apply op_of | apply val_of | apply op2_of | apply test2_of | apply ValK.ok | apply Op2K.ok | apply Op2L.ok | apply Test2L.ok | apply Test2K.ok) | exact (rfl : listFree _ = true) | exact (rfl : (_ : Option _) = some _) | decide)
noncomputable def turn (n : Nat) (a : List Int) : List Int := (rng n).map fun b => ((rng n).filter fun k => eqZ (at' a k) b).headD 0
theorem filter_one {n : Nat} {a : List Int} (r : Row n a) {p : Nat} (hp : p < n) : ∃ l, (rng n).filter (fun k => eqZ (at' a k) (a.getD p 0)) = (p : Int) :: l := by
  cases h : (rng n).filter (fun k => eqZ (at' a k) (a.getD p 0)) with
  | nil =>
    have := List.filter_eq_nil_iff.mp h p (mem_rng.mpr ⟨by omega, by omega⟩)
    exact absurd (eqZ_true.mpr (by unfold at'; rw [Int.toNat_natCast])) this
  | cons x l =>
    have hx : x ∈ (rng n).filter (fun k => eqZ (at' a k) (a.getD p 0)) := by rw [h]; exact .head _
    obtain ⟨h1, h2⟩ := List.mem_filter.mp hx
    have h3 := mem_rng.mp h1
    have h4 := eqZ_true.mp h2
    unfold at' at h4
    have := r.inj (p := x.toNat) (q := p) (by omega) hp h4
    exact ⟨l, by rw [show x = (p : Int) by omega]⟩
theorem turn_inv {n : Nat} {a : List Int} (r : Row n a) : Inv n a (turn n a) := by
  refine ⟨by unfold turn; rw [List.length_map, rng_length], fun p hp => ?_⟩
  obtain ⟨l, hl⟩ := filter_one r hp
  have hb := r.at_lt hp
  unfold turn
  rw [List.getElem?_map, show (rng n)[(a.getD p 0).toNat]? = some (a.getD p 0) by
    unfold rng; rw [List.getElem?_map, List.getElem?_range (by omega)]; show some (((a.getD p 0).toNat : Nat) : Int) = some _; rw [Int.toNat_of_nonneg hb.1]]
  show some ((List.filter (fun k => eqZ (at' a k) (a.getD p 0)) (rng n)).headD 0) = some (p : Int)
  rw [hl]; rfl
theorem so_refused : PyData.strOk "refused" = true := by decide +kernel
theorem so_row : PyData.strOk "row" = true := by decide +kernel
theorem three (c : Int) : ∃ n : Nat, 3 ≤ n ∧ n ≤ 12 ∧ ∃ r, modI (.int c) (.int 10) = some (.sh (.int r)) ∧ addD (.int 3) (.int r) = some (.sh (.int n)) := by
  obtain ⟨t, ht, ht5⟩ := fmod_nat c (n := 10) (by decide)
  refine ⟨3 + t, by omega, by omega, t, ?_, ?_⟩
  · rw [modI_of (by decide)]; rw [show c.fmod 10 = t from ht]
  · rfl
noncomputable def plOk (n : Int) : Int → List D → Bool
  | _, [] => true
  | ah, .int p :: r => decide (ah + 2 ≤ p) && decide (p ≤ n - 2) && plOk n p r
  | _, _ :: _ => false
theorem places_loop (K : Frag) (n : Int) {dch : D} {ds : List D} (hc : ∀ d ∈ ds, calm d = true) : ∃ r, forN (bName 3) (sSeq (sIf (eOr (eNot (eTruth (eVal (eCall (F_is_whole K) (eConsB (eOp 3) eNilB))))) (eOr (eNot (eChain leI leI (eVal (eOp2 addD (eOp 2) (eVal (eConst (.int 2))))) (eOp 3) (eVal (eOp2 subI (eOp 0) (eVal (eConst (.int 2))))))) eOrNil)) (sSeq (sRaise 68 (eCons (eConst (.str "no place of a change")) eNil)) sNil) sNil) (sSeq (sAssign 2 (eVar 3)) sNil)) ds [some (.sh (.int n)), some (.sh dch), some (.sh (.int (-2))), none] = r ∧ (if plOk n (-2) ds then ∃ ρ, r = .ok .next ρ else ∃ ρ, r = .exc 68 ρ) := by
  refine for_ex (fun ρ ds' => ∃ (ah : Int) (v : Option T), ρ = [some (.sh (.int n)), some (.sh dch), some (.sh (.int ah)), v] ∧ plOk n ah ds' = plOk n (-2) ds ∧ ∀ d ∈ ds', calm d = true) _ ?_ ?_ ds _ ⟨-2, none, rfl, rfl, hc⟩
  · rintro ρ ⟨ah, v, rfl, h, _⟩
    rw [← h, plOk, if_pos rfl]; exact ⟨_, rfl⟩
  · rintro ρ d ds' ⟨ah, v, rfl, h, hc⟩
    have hd := hc d (.head _)
    have e := F_is_whole_eq K d hd
    refine ⟨[some (.sh (.int n)), some (.sh dch), some (.sh (.int ah)), some (.sh d)], ?_⟩
    cases hw : isW d with
    | false =>
      rw [hw] at e
      have hp : plOk n (-2) ds = false := by rw [← h]; cases d <;> first | rfl | cases hw
      refine ⟨.exc 68 [some (.sh (.int n)), some (.sh dch), some (.sh (.int ah)), some (.sh d)], rfl, ?_, ?_⟩
      · repeat' (first | (with_reducible first | assumption | exact v_sh | exact tg_sh | exact look0 | apply lookS | exact set0 | apply setS | exact g_val | apply g_var | exact ga_nil | apply ga_cons | exact len0 | apply lenC | exact const_of | exact nilB_of | exact nil_of | exact orNil_of | exact sNil_of | apply op_of | apply val_of | apply consB_of | apply op2_of | apply call_of | apply cons_of | apply truth_of | apply not_of | apply or_of | apply chain_of | apply seq_of | apply if_of | apply asg_of | apply raise_of | apply ValK.ok | apply Op2K.ok | apply Op2L.ok | apply CallK.ok | apply ConsBL.ok | apply ConsBK.ok | apply ConsL.ok | apply ConsK.ok | apply TruthK.ok | apply ChainN.ok | apply ChainL.ok | apply ChainK.ok | apply AsgK.ok | exact NotK.t | exact NotK.f | exact OrK.t | apply OrK.f | apply ChainM.t | exact ChainM.f | apply SeqK.next | exact SeqK.exc | apply IfK.t | apply IfK.f) | exact ce_ok rfl | exact (rfl : listFree _ = true) | exact var_sh rfl | exact (rfl : (_ : Option _) = some _) | decide)
      · show if _ then _ else _
        rw [hp, if_neg (by decide)]; exact ⟨_, rfl⟩
    | true =>
      rw [hw] at e
      cases d with
      | int p =>
        rw [plOk] at h
        by_cases h1 : ah + 2 ≤ p
        · have e1 := leI_t h1
          by_cases h2 : p ≤ n - 2
          · have e2 := leI_t h2
            refine ⟨.ok .next [some (.sh (.int n)), some (.sh dch), some (.sh (.int p)), some (.sh (.int p))], rfl, ?_, ?_⟩
            · repeat' (first | (with_reducible first | assumption | exact v_sh | exact tg_sh | exact look0 | apply lookS | exact set0 | apply setS | exact g_val | apply g_var | exact ga_nil | apply ga_cons | exact len0 | apply lenC | exact const_of | exact nilB_of | exact nil_of | exact orNil_of | exact sNil_of | apply op_of | apply val_of | apply consB_of | apply op2_of | apply call_of | apply cons_of | apply truth_of | apply not_of | apply or_of | apply chain_of | apply seq_of | apply if_of | apply asg_of | apply raise_of | apply ValK.ok | apply Op2K.ok | apply Op2L.ok | apply CallK.ok | apply ConsBL.ok | apply ConsBK.ok | apply ConsL.ok | apply ConsK.ok | apply TruthK.ok | apply ChainN.ok | apply ChainL.ok | apply ChainK.ok | apply AsgK.ok | exact NotK.t | exact NotK.f | exact OrK.t | apply OrK.f | apply ChainM.t | exact ChainM.f | apply SeqK.next | exact SeqK.exc | apply IfK.t | apply IfK.f) | exact ce_ok rfl | exact (rfl : listFree _ = true) | exact var_sh rfl | exact (rfl : (_ : Option _) = some _) | decide)
            · exact ⟨p, _, rfl, by rw [← h, decide_eq_true h1, decide_eq_true h2]; rfl, fun d hd => hc d (.tail _ hd)⟩
          · have e2 := leI_f h2
            have hp : plOk n (-2) ds = false := by rw [← h, decide_eq_false h2]; simp
            refine ⟨.exc 68 [some (.sh (.int n)), some (.sh dch), some (.sh (.int ah)), some (.sh (.int p))], rfl, ?_, ?_⟩
            · repeat' (first | (with_reducible first | assumption | exact v_sh | exact tg_sh | exact look0 | apply lookS | exact set0 | apply setS | exact g_val | apply g_var | exact ga_nil | apply ga_cons | exact len0 | apply lenC | exact const_of | exact nilB_of | exact nil_of | exact orNil_of | exact sNil_of | apply op_of | apply val_of | apply consB_of | apply op2_of | apply call_of | apply cons_of | apply truth_of | apply not_of | apply or_of | apply chain_of | apply seq_of | apply if_of | apply asg_of | apply raise_of | apply ValK.ok | apply Op2K.ok | apply Op2L.ok | apply CallK.ok | apply ConsBL.ok | apply ConsBK.ok | apply ConsL.ok | apply ConsK.ok | apply TruthK.ok | apply ChainN.ok | apply ChainL.ok | apply ChainK.ok | apply AsgK.ok | exact NotK.t | exact NotK.f | exact OrK.t | apply OrK.f | apply ChainM.t | exact ChainM.f | apply SeqK.next | exact SeqK.exc | apply IfK.t | apply IfK.f) | exact ce_ok rfl | exact (rfl : listFree _ = true) | exact var_sh rfl | exact (rfl : (_ : Option _) = some _) | decide)
            · show if _ then _ else _
              rw [hp, if_neg (by decide)]; exact ⟨_, rfl⟩
        · have e1 := leI_f h1
          have hp : plOk n (-2) ds = false := by rw [← h, decide_eq_false h1]; simp
          refine ⟨.exc 68 [some (.sh (.int n)), some (.sh dch), some (.sh (.int ah)), some (.sh (.int p))], rfl, ?_, ?_⟩
          · repeat' (first | (with_reducible first | assumption | exact v_sh | exact tg_sh | exact look0 | apply lookS | exact set0 | apply setS | exact g_val | apply g_var | exact ga_nil | apply ga_cons | exact len0 | apply lenC | exact const_of | exact nilB_of | exact nil_of | exact orNil_of | exact sNil_of | apply op_of | apply val_of | apply consB_of | apply op2_of | apply call_of | apply cons_of | apply truth_of | apply not_of | apply or_of | apply chain_of | apply seq_of | apply if_of | apply asg_of | apply raise_of | apply ValK.ok | apply Op2K.ok | apply Op2L.ok | apply CallK.ok | apply ConsBL.ok | apply ConsBK.ok | apply ConsL.ok | apply ConsK.ok | apply TruthK.ok | apply ChainN.ok | apply ChainL.ok | apply ChainK.ok | apply AsgK.ok | exact NotK.t | exact NotK.f | exact OrK.t | apply OrK.f | apply ChainM.t | exact ChainM.f | apply SeqK.next | exact SeqK.exc | apply IfK.t | apply IfK.f) | exact ce_ok rfl | exact (rfl : listFree _ = true) | exact var_sh rfl | exact (rfl : (_ : Option _) = some _) | decide)
          · show if _ then _ else _
            rw [hp, if_neg (by decide)]; exact ⟨_, rfl⟩
      | _ => cases hw
theorem F_need_places_tup (K : Frag) (n : Int) (ds : List D) (hn : ds ≠ []) (hl : ds.length ≤ 1000000) (hc : ∀ d ∈ ds, calm d = true) : F_need_places K [.int n, .tup ds] = if plOk n (-2) ds then .ok (.sh .none) else .exc 68 := by
  have e' : isInstI K [.tup ds, .glob (.type "tuple")] = some (.sh (.bool true)) := isTuple_eq K (.tup ds) rfl
  have e2 := lenI_tup hl
  have e3 := eqI_f (a := (ds.length : Int)) (b := 0) (by
    have := List.length_pos_iff.mpr hn; omega)
  obtain ⟨r, h1, h2⟩ := places_loop K n (dch := .tup ds) hc
  have e4 : itemsD (.tup ds) = some ds := rfl
  have e5 : negI (.int 2) = some (.sh (.int (-2))) := rfl
  cases hp : plOk n (-2) ds with
  | true =>
    rw [hp, if_pos rfl] at h2
    obtain ⟨ρ, rfl⟩ := h2
    rw [if_pos rfl]
    unfold F_need_places f_need_places
    refine' run_of [some (.sh (.int n)), some (.sh (.tup ds)), none, none] rfl rfl ?_ fin_next
    repeat' (first | (with_reducible first | assumption | exact v_sh | exact tg_sh | exact look0 | apply lookS | exact set0 | apply setS | exact g_val | apply g_var | exact ga_nil | apply ga_cons | exact const_of | exact nilB_of | exact orNil_of | exact sNil_of | apply op_of | apply val_of | apply opN_of | apply consB_of | apply truth_of | apply test2_of | apply not_of | apply or_of | apply op1_of | apply items_of | apply seq_of | apply if_of | apply asg_of | apply for_of | apply ValK.ok | apply Op1K.ok | apply OpNK.ok | apply ConsBL.ok | apply ConsBK.ok | apply TruthK.ok | apply Test2L.ok | apply Test2K.ok | apply ItemsK.ok | apply AsgK.ok | apply ForK.ok | exact NotK.t | apply OrK.f | apply SeqK.next | exact SeqK.exc | apply IfK.f) | exact (rfl : listFree _ = true) | exact var_sh rfl | exact (rfl : (_ : Option _) = some _) | decide)
  | false =>
    rw [hp, if_neg (by decide)] at h2
    obtain ⟨ρ, rfl⟩ := h2
    rw [if_neg (by decide)]
    unfold F_need_places f_need_places
    refine' run_of [some (.sh (.int n)), some (.sh (.tup ds)), none, none] rfl rfl ?_ fin_exc
    repeat' (first | (with_reducible first | assumption | exact v_sh | exact tg_sh | exact look0 | apply lookS | exact set0 | apply setS | exact g_val | apply g_var | exact ga_nil | apply ga_cons | exact const_of | exact nilB_of | exact orNil_of | exact sNil_of | apply op_of | apply val_of | apply opN_of | apply consB_of | apply truth_of | apply test2_of | apply not_of | apply or_of | apply op1_of | apply items_of | apply seq_of | apply if_of | apply asg_of | apply for_of | apply ValK.ok | apply Op1K.ok | apply OpNK.ok | apply ConsBL.ok | apply ConsBK.ok | apply TruthK.ok | apply Test2L.ok | apply Test2K.ok | apply ItemsK.ok | apply AsgK.ok | apply ForK.ok | exact NotK.t | apply OrK.f | apply SeqK.next | exact SeqK.exc | apply IfK.f) | exact (rfl : listFree _ = true) | exact var_sh rfl | exact (rfl : (_ : Option _) = some _) | decide)
noncomputable def chOk (n : Nat) : Nat → List Nat → Bool
  | _, [] => true
  | lo, p :: r => decide (lo ≤ p) && decide (p + 2 ≤ n) && chOk n (p + 2) r
structure Change (n : Nat) (cs : List Nat) : Prop where
  ne : cs ≠ []
  ok : chOk n 0 cs = true
noncomputable def nD (cs : List Nat) : List D := cs.map fun (p : Nat) => D.int p
theorem nD_iL (cs : List Nat) : nD cs = iL (cs.map fun (p : Nat) => (p : Int)) := by unfold nD iL; rw [List.map_map]; rfl
theorem plOk_ch (n : Nat) : ∀ (cs : List Nat) (lo : Nat), plOk n ((lo : Int) - 2) (nD cs) = chOk n lo cs
  | [], _ => rfl
  | p :: r, lo => by
    show (decide _ && decide _ && plOk n p (nD r)) = _
    rw [chOk, ← plOk_ch n r (p + 2)]
    have a : decide ((lo : Int) - 2 + 2 ≤ p) = decide (lo ≤ p) := decide_eq_decide.mpr (by omega)
    have b : decide ((p : Int) ≤ n - 2) = decide (p + 2 ≤ n) := decide_eq_decide.mpr (by omega)
    rw [a, b, show (((p + 2 : Nat) : Int) - 2) = (p : Int) by omega]
theorem chOk_len {n : Nat} : ∀ {cs : List Nat} {lo : Nat}, chOk n lo cs = true → lo ≤ n → cs.length ≤ n - lo
  | [], _, _, _ => Nat.zero_le _
  | p :: r, lo, h, hl => by
    rw [chOk] at h
    simp only [Bool.and_eq_true, decide_eq_true_eq] at h
    have := chOk_len h.2 (by omega)
    simp only [List.length_cons]; omega
theorem nD_len (cs : List Nat) : (nD cs).length = cs.length := by simp [nD]
theorem nD_calm (cs : List Nat) : ∀ d ∈ nD cs, calm d = true := fun d hd => by
  obtain ⟨i, _, rfl⟩ := List.mem_map.mp hd; rfl
theorem F_need_places_ok (K : Frag) {n : Nat} {cs : List Nat} (h : Change n cs) (hn : n ≤ 12) : F_need_places K [.int n, .tup (nD cs)] = .ok (.sh .none) := by
  have := chOk_len h.ok (Nat.zero_le _)
  rw [F_need_places_tup K n (nD cs) (by intro q; exact h.ne (List.map_eq_nil_iff.mp q)) (by rw [nD_len]; omega) (nD_calm cs)]
  have e := plOk_ch n cs 0
  rw [show (((0 : Nat) : Int) - 2) = -2 by decide] at e
  rw [e, h.ok, if_pos rfl]
noncomputable def swap (f : List Int) (p : Nat) : List Int := (f.set p (f.getD (p + 1) 0)).set (p + 1) (f.getD p 0)
noncomputable def rung (a : List Int) (cs : List Nat) : List Int := cs.foldl swap a
theorem swap_len (f : List Int) (p : Nat) : (swap f p).length = f.length := by simp [swap]
theorem rung_len (a : List Int) (cs : List Nat) : (rung a cs).length = a.length := by
  unfold rung
  induction cs generalizing a with
  | nil => rfl
  | cons p r ih => rw [List.foldl_cons, ih, swap_len]
theorem swap_get {f : List Int} {p : Nat} (h : p + 1 < f.length) (i : Nat) : (swap f p)[i]? = if i = p then f[p + 1]? else if i = p + 1 then f[p]? else f[i]? := by
  unfold swap
  by_cases h1 : i = p
  · subst h1
    rw [if_pos rfl, List.getElem?_set_ne (by omega), List.getElem?_set_self (by omega), List.getD_eq_getElem?_getD, List.getElem?_eq_getElem h]; rfl
  · rw [if_neg h1]
    by_cases h2 : i = p + 1
    · subst h2
      rw [if_pos rfl, List.getElem?_set_self (by rw [List.length_set]; omega), List.getD_eq_getElem?_getD, List.getElem?_eq_getElem (by omega : p < f.length)]; rfl
    · rw [if_neg h2, List.getElem?_set_ne (by omega), List.getElem?_set_ne (by omega)]
theorem swap_perm {f : List Int} {p : Nat} (h : p + 1 < f.length) : (swap f p).Perm f := by
  induction p generalizing f with
  | zero =>
    match f, h with
    | x :: y :: l, _ => exact List.Perm.swap _ _ _
  | succ p ih =>
    match f, h with
    | x :: l, h =>
      have : swap (x :: l) (p + 1) = x :: swap l p := by unfold swap; simp
      rw [this]
      exact (ih (by simpa using h)).cons x
theorem rung_perm {n : Nat} : ∀ {cs : List Nat} {lo : Nat} {f : List Int}, f.length = n → chOk n lo cs = true → (rung f cs).Perm f
  | [], _, _, _, _ => .refl _
  | q :: r, lo, f, hf, h => by
    rw [chOk] at h
    simp only [Bool.and_eq_true, decide_eq_true_eq] at h
    exact (rung_perm (f := swap f q) (by rw [swap_len]; exact hf) h.2).trans (swap_perm (by omega))
theorem Row.rung {n : Nat} {a : List Int} {cs : List Nat} (r : Row n a) (h : chOk n 0 cs = true) : Row n (rung a cs) := ⟨(rung_perm r.len h).trans r.perm, r.h3, r.h12⟩
theorem swapped_loop (K : Frag) {n : Nat} {a : List Int} {dch : D} (ha : a.length = n) (hn : n ≤ 12) {cs : List Nat} (h : chOk n 0 cs = true) : ∃ v, forN (bName 3) (sSeq (sSetItem 2 (eOp 3) (eOp2 idxI (eOp 0) (eVal (eOp2 addD (eOp 3) (eVal (eConst (.int 1))))))) (sSeq (sSetItem 2 (eVal (eOp2 addD (eOp 3) (eVal (eConst (.int 1))))) (eOp2 idxI (eOp 0) (eOp 3))) sNil)) (nD cs) [some (.sh (.tup (iL a))), some (.sh dch), some (.ow true (.list (iL a))), none] = .ok .next [some (.sh (.tup (iL a))), some (.sh dch), some (.ow true (.list (iL (rung a cs)))), v] := by
  obtain ⟨ρ', h1, f, cs', v, lo, rfl, hd, hf, hr, hc, hg⟩ := forN_ex (b := bName 3) (sf := (sSeq (sSetItem 2 (eOp 3) (eOp2 idxI (eOp 0) (eVal (eOp2 addD (eOp 3) (eVal (eConst (.int 1))))))) (sSeq (sSetItem 2 (eVal (eOp2 addD (eOp 3) (eVal (eConst (.int 1))))) (eOp2 idxI (eOp 0) (eOp 3))) sNil))) (fun ρ ds => ∃ (f : List Int) (cs' : List Nat) (v : Option T) (lo : Nat), ρ = [some (.sh (.tup (iL a))), some (.sh dch), some (.ow true (.list (iL f))), v] ∧ ds = nD cs' ∧ f.length = n ∧ rung f cs' = rung a cs ∧ chOk n lo cs' = true ∧ ∀ i, lo ≤ i → f[i]? = a[i]?) (by
    rintro ρ d ds ⟨f, cs', v, lo, rfl, hd, hf, hr, hc, hg⟩
    cases cs' with
    | nil => cases hd
    | cons p r =>
      cases hd
      rw [chOk] at hc
      simp only [Bool.and_eq_true, decide_eq_true_eq] at hc
      have hp1 : p + 1 < f.length := by rw [hf]; exact hc.1.2
      have hp1a : p + 1 < a.length := by rw [ha]; exact hc.1.2
      have hp0 : p < f.length := Nat.lt_of_succ_lt hp1
      have hb : p + 1 ≤ 1000 := Nat.le_trans (Nat.le_of_succ_le hc.1.2) (big12' hn)
      have hlf : (iL f).length ≤ 1000000 := by rw [iL_length, hf]; exact big12 hn
      have e1 : idxI (.tup (iL a)) (.int ((p : Int) + 1)) = some (.sh (.int (a.getD (p + 1) 0))) := idxN_tup (p := p + 1) hb (iL_get hp1a)
      have e2 : idxI (.tup (iL a)) (.int p) = some (.sh (.int (a.getD p 0))) := idxN_tup (Nat.le_of_succ_le hb) (iL_get (Nat.lt_of_succ_lt hp1a))
      have e3 : (0 : Int) ≤ p ∧ (p : Int) < ((iL f).length : Int) := ⟨Int.natCast_nonneg p, by rw [iL_length]; exact Int.ofNat_lt.mpr hp0⟩
      have e4 : (0 : Int) ≤ (p : Int) + 1 ∧ (p : Int) + 1 < (((iL f).set (p : Int).toNat (.int (a.getD (p + 1) 0))).length : Int) := ⟨Int.natCast_nonneg (p + 1), by rw [List.length_set, iL_length]; exact Int.ofNat_lt.mpr hp1⟩
      have e5 : ((iL f).set (p : Int).toNat (.int (a.getD (p + 1) 0))).length ≤ 1000000 := by rw [List.length_set]; exact hlf
      have ep : a.getD p 0 = f.getD p 0 := by rw [List.getD_eq_getElem?_getD, List.getD_eq_getElem?_getD, hg p hc.1.1]
      have eq : a.getD (p + 1) 0 = f.getD (p + 1) 0 := by rw [List.getD_eq_getElem?_getD, List.getD_eq_getElem?_getD, hg (p + 1) (Nat.le_succ_of_le hc.1.1)]
      refine ⟨[some (.sh (.tup (iL a))), some (.sh dch), some (.ow true (.list (iL f))), some (.sh (.int p))], [some (.sh (.tup (iL a))), some (.sh dch), some (.ow true (.list (((iL f).set (p : Int).toNat (.int (a.getD (p + 1) 0))).set ((p : Int) + 1).toNat (.int (a.getD p 0))))), some (.sh (.int p))], rfl, ?_, swap f p, r, some (.sh (.int p)), p + 2, ?_, rfl, by rw [swap_len]; exact hf, hr, hc.2, ?_⟩
      · repeat' (first | (with_reducible first | assumption | exact v_sh | exact tg_sh | exact look0 | apply lookS | exact set0 | apply setS | exact g_val | apply g_var | apply own_of | exact const_of | exact sNil_of | apply op_of | apply val_of | apply op2_of | apply seq_of | apply setItem_of | apply ValK.ok | apply Op2K.ok | apply Op2L.ok | apply SeqK.next) | exact (rfl : listFree _ = true) | exact (rfl : (_ : Option _) = some _) | decide)
      · rw [iL_set, iL_set, show ((p : Int) + 1).toNat = p + 1 from rfl, Int.toNat_natCast, ep, eq]; rfl
      · intro i hi
        rw [swap_get hp1, if_neg (Nat.ne_of_gt (Nat.lt_of_succ_lt hi)), if_neg (Nat.ne_of_gt hi)]
        exact hg i (Nat.le_trans hc.1.1 (Nat.le_of_lt (Nat.lt_of_succ_lt hi)))) (nD cs) _ ⟨a, cs, none, 0, rfl, rfl, ha, rfl, h, fun i _ => rfl⟩
  have : cs' = [] := List.map_eq_nil_iff.mp hd.symm
  subst this
  have hr' : f = rung a cs := hr
  subst hr'
  exact ⟨v, h1⟩
theorem F_swapped_ok (K : Frag) {n : Nat} {a : List Int} (ha : a.length = n) (hn : n ≤ 12) {cs : List Nat} (h : chOk n 0 cs = true) : F_swapped K [.tup (iL a), .tup (nD cs)] = .ok (.sh (.tup (iL (rung a cs)))) := by
  obtain ⟨v, h1⟩ := swapped_loop K (dch := .tup (nD cs)) ha hn h
  have e1 : listI [.tup (iL a)] = some (.ow true (.list (iL a))) := listI_t (by rw [iL_length]; omega)
  have e2 := tuple_list (ds := iL (rung a cs)) (by rw [iL_length, rung_len]; omega)
  have e3 : itemsD (.tup (nD cs)) = some (nD cs) := rfl
  unfold F_swapped f_swapped
  refine' run_of [some (.sh (.tup (iL a))), some (.sh (.tup (nD cs))), none, none] rfl rfl ?_ fin_ret
  repeat' (first | (with_reducible first | assumption | exact v_sh | exact tg_sh | exact tg_ow | exact look0 | apply lookS | exact set0 | apply setS | apply g_var | exact ga_nil | apply ga_cons | exact nilB_of | apply op_of | apply opN_of | apply consB_of | apply items_of | apply seq_of | apply ret_of | apply asg_of | apply for_of | apply OpNK.ok | apply ConsBL.ok | apply ConsBK.ok | apply ItemsK.ok | apply RetK.ok | apply AsgK.ok | apply ForK.ok | apply SeqK.next | exact SeqK.ret) | exact (rfl : listFree _ = true) | exact var_sh rfl | exact (rfl : (_ : Option _) = some _) | decide)
theorem swap_cut' {f : List Int} {p : Nat} (h : p + 1 < f.length) : f.take p ++ [f.getD (p + 1) 0, f.getD p 0] ++ f.drop (p + 2) = swap f p := by
  induction p generalizing f with
  | zero =>
    match f, h with
    | x :: y :: l, _ => rfl
  | succ p ih =>
    match f, h with
    | x :: l, h =>
      have : swap (x :: l) (p + 1) = x :: swap l p := by unfold swap; simp
      rw [this, ← ih (by simpa using h)]
      rfl
theorem swap_cut {f : List Int} {p : Nat} (h : p + 1 < f.length) : (iL f).take p ++ [.int (f.getD (p + 1) 0), .int (f.getD p 0)] ++ (iL f).drop (p + 2) = iL (swap f p) := by
  rw [← swap_cut' h]
  unfold iL
  simp
theorem rung_loop (K : Frag) {n : Nat} {a : List Int} {da dch : D} (ha : a.length = n) (hn : n ≤ 12) {cs : List Nat} (h : chOk n 0 cs = true) : ∃ v, forN (bName 3) (sSeq (sAssign 2 (eOp2 addD (eVal (eOp2 addD (eVal (eSlice (eOp 2) eNoPart (ePart (eOp 3)))) (eVal (eLst (eCons (eOp2 idxI (eOp 2) (eVal (eOp2 addD (eOp 3) (eVal (eConst (.int 1)))))) (eCons (eOp2 idxI (eOp 2) (eOp 3)) eNil)))))) (eVal (eSlice (eOp 2) (ePart (eVal (eOp2 addD (eOp 3) (eVal (eConst (.int 2)))))) eNoPart)))) sNil) (nD cs) [some (.sh da), some (.sh dch), some (.ow true (.list (iL a))), none] = .ok .next [some (.sh da), some (.sh dch), some (.ow true (.list (iL (rung a cs)))), v] := by
  obtain ⟨ρ', h1, f, cs', v, lo, rfl, hd, hf, hr, hc⟩ := forN_ex (b := bName 3) (sf := (sSeq (sAssign 2 (eOp2 addD (eVal (eOp2 addD (eVal (eSlice (eOp 2) eNoPart (ePart (eOp 3)))) (eVal (eLst (eCons (eOp2 idxI (eOp 2) (eVal (eOp2 addD (eOp 3) (eVal (eConst (.int 1)))))) (eCons (eOp2 idxI (eOp 2) (eOp 3)) eNil)))))) (eVal (eSlice (eOp 2) (ePart (eVal (eOp2 addD (eOp 3) (eVal (eConst (.int 2)))))) eNoPart)))) sNil)) (fun ρ ds => ∃ (f : List Int) (cs' : List Nat) (v : Option T) (lo : Nat), ρ = [some (.sh da), some (.sh dch), some (.ow true (.list (iL f))), v] ∧ ds = nD cs' ∧ f.length = n ∧ rung f cs' = rung a cs ∧ chOk n lo cs' = true) (by
    rintro ρ d ds ⟨f, cs', v, lo, rfl, hd, hf, hr, hc⟩
    cases cs' with
    | nil => cases hd
    | cons p r =>
      cases hd
      rw [chOk] at hc
      simp only [Bool.and_eq_true, decide_eq_true_eq] at hc
      have hl : (iL f).length = n := by rw [iL_length]; exact hf
      have hp2 : p + 2 ≤ n := hc.1.2
      have hp1 : p + 1 < f.length := by rw [hf]; exact hp2
      have hb : p + 1 ≤ 1000 := Nat.le_trans (Nat.le_of_succ_le hp2) (big12' hn)
      have hlb : (iL f).length ≤ 1000000 := by rw [hl]; exact big12 hn
      have hpn : p ≤ (iL f).length := by rw [hl]; exact Nat.le_trans (Nat.le_add_right p 2) hp2
      have e1 : idxI (.list (iL f)) (.int ((p : Int) + 1)) = some (.sh (.int (f.getD (p + 1) 0))) := idxN_list (p := p + 1) hb (iL_get hp1)
      have e2 : idxI (.list (iL f)) (.int p) = some (.sh (.int (f.getD p 0))) := idxN_list (Nat.le_of_succ_le hb) (iL_get (Nat.lt_of_succ_lt hp1))
      have e3 : sliceI (.list (iL f)) none (some (p : Int)) = some (.ow true (.list ((iL f).take p))) := by rw [sliceI_l hlb, cut_to hpn]
      have e4 : sliceI (.list (iL f)) (some ((p : Int) + 2)) none = some (.ow true (.list ((iL f).drop (p + 2)))) := by
        rw [sliceI_l hlb, show ((p : Int) + 2) = ((p + 2 : Nat) : Int) from rfl, cut_from (by rw [hl]; exact hp2)]
      have l1 : ((iL f).take p).length = p := by rw [List.length_take]; exact Nat.min_eq_left hpn
      have l2 : ((iL f).drop (p + 2)).length = n - (p + 2) := by rw [List.length_drop, hl]
      have e5 : addD (.list ((iL f).take p)) (.list [.int (f.getD (p + 1) 0), .int (f.getD p 0)]) = some (.ow true (.list ((iL f).take p ++ [.int (f.getD (p + 1) 0), .int (f.getD p 0)]))) := addD_l (by rw [l1]; exact Nat.le_trans hp2 (big12 hn))
      have e6 : addD (.list ((iL f).take p ++ [.int (f.getD (p + 1) 0), .int (f.getD p 0)])) (.list ((iL f).drop (p + 2))) = some (.ow true (.list (iL (swap f p)))) := by
        rw [addD_l (by rw [l2, List.length_append, l1]; show p + 2 + (n - (p + 2)) ≤ 1000000; rw [Nat.add_sub_cancel' hp2]; exact big12 hn), swap_cut hp1]
      refine ⟨[some (.sh da), some (.sh dch), some (.ow true (.list (iL f))), some (.sh (.int p))], [some (.sh da), some (.sh dch), some (.ow true (.list (iL (swap f p)))), some (.sh (.int p))], rfl, ?_, swap f p, r, _, p + 2, rfl, rfl, by rw [swap_len]; exact hf, hr, hc.2⟩
      repeat' (first | (with_reducible first | assumption | exact v_sh | exact v_ow | exact tg_sh | exact tg_ow | exact look0 | apply lookS | exact set0 | apply setS | exact g_val | apply g_var | exact len0 | apply lenC | exact const_of | exact nil_of | exact noPart_of | exact sNil_of | apply op_of | apply val_of | apply op2_of | apply cons_of | apply lst_of | apply part_of | apply slice_of | apply seq_of | apply asg_of | apply ValK.ok | apply Op2K.ok | apply Op2L.ok | apply ConsL.ok | apply ConsK.ok | apply LstK.ok | apply AsgK.ok | apply SeqK.next) | exact (rfl : listFree _ = true) | exact (rfl : (_ : Option _) = some _) | decide)) (nD cs) _ ⟨a, cs, none, 0, rfl, rfl, ha, rfl, h⟩
  have : cs' = [] := List.map_eq_nil_iff.mp hd.symm
  subst this
  have hr' : f = rung a cs := hr
  subst hr'
  exact ⟨v, h1⟩
theorem F_law_rung_ok (K : Frag) {n : Nat} {a : List Int} (ha : a.length = n) (hn : n ≤ 12) {cs : List Nat} (h : chOk n 0 cs = true) : F_law_rung K [.tup (iL a), .tup (nD cs)] = .ok (.sh (.tup (iL (rung a cs)))) := by
  obtain ⟨v, h1⟩ := rung_loop K (da := .tup (iL a)) (dch := .tup (nD cs)) ha hn h
  have e1 : listI [.tup (iL a)] = some (.ow true (.list (iL a))) := listI_t (by rw [iL_length]; omega)
  have e2 := tuple_list (ds := iL (rung a cs)) (by rw [iL_length, rung_len]; omega)
  have e3 : itemsD (.tup (nD cs)) = some (nD cs) := rfl
  unfold F_law_rung f_law_rung
  refine' run_of [some (.sh (.tup (iL a))), some (.sh (.tup (nD cs))), none, none] rfl rfl ?_ fin_ret
  repeat' (first | (with_reducible first | assumption | exact v_sh | exact tg_sh | exact tg_ow | exact look0 | apply lookS | exact set0 | apply setS | apply g_var | exact ga_nil | apply ga_cons | exact nilB_of | apply op_of | apply opN_of | apply consB_of | apply items_of | apply seq_of | apply ret_of | apply asg_of | apply for_of | apply OpNK.ok | apply ConsBL.ok | apply ConsBK.ok | apply ItemsK.ok | apply RetK.ok | apply AsgK.ok | apply ForK.ok | apply SeqK.next | exact SeqK.ret) | exact (rfl : listFree _ = true) | exact var_sh rfl | exact (rfl : (_ : Option _) = some _) | decide)
theorem change_loop (K : Frag) (c : Int) (n : Nat) (h3 : 3 ≤ n) (h12 : n ≤ 12) : ∃ r, (sWhile 1000 (eTest2 ltI (eOp 3) (eVal (eOp2 subI (eOp 1) (eVal (eConst (.int 1)))))) (sSeq (sIf (eTest2 gtI (eVal (eOp2 modI (eVal (eOp2 divI (eVal (eCall (F_law_mix K) (eConsB (eOp 0) (eConsB (eOp 3) eNilB)))) (eVal (eConst (.int 5))))) (eVal (eConst (.int 3))))) (eVal (eConst (.int 0)))) (sSeq (sExpr (eVal (eAppend 2 (eVar 3)))) (sSeq (sAssign 3 (eOp2 addD (eOp 3) (eVal (eConst (.int 1))))) sNil)) sNil) (sSeq (sAssign 3 (eOp2 addD (eOp 3) (eVal (eConst (.int 1))))) sNil))) [some (.sh (.int c)), some (.sh (.int n)), some (.ow true (.list [])), some (.sh (.int 0))] = r ∧ ∃ cs v, r = .ok .next [some (.sh (.int c)), some (.sh (.int n)), some (.ow true (.list (nD cs))), v] ∧ chOk n 0 cs = true := by
  refine while_ex (fun m ρ => ∃ (cs : List Nat) (p : Nat), ρ = [some (.sh (.int c)), some (.sh (.int n)), some (.ow true (.list (nD cs))), some (.sh (.int p))] ∧ m = 100 - p ∧ p ≤ n ∧ cs.length ≤ p ∧ (∀ r, chOk n p r = true → chOk n 0 (cs ++ r) = true)) (fun r => ∃ cs v, r = .ok .next [some (.sh (.int c)), some (.sh (.int n)), some (.ow true (.list (nD cs))), v] ∧ chOk n 0 cs = true) ?_ 1000 100 _ ⟨[], 0, rfl, rfl, Nat.zero_le _, Nat.zero_le _, fun r h => h⟩ (by decide)
  rintro m ρ ⟨cs, p, rfl, rfl, hp, hl, hc⟩
  have e0 : (subI (.int n) (.int 1)) = some (.sh (.int ((n : Int) - 1))) := rfl
  by_cases hpn : (p : Int) < (n : Int) - 1
  · right
    have e1 := ltI_t hpn
    have e2 := F_law_mix_ok K c p (small_of (by omega))
    have e3 : modI (.int ((mix c p).fdiv 5)) (.int 3) = some (.sh (.int (((mix c p).fdiv 5).fmod 3))) := modI_of (by decide)
    generalize ((mix c p).fdiv 5).fmod 3 = z at e3
    have hl' : (nD cs).length ≤ 1000000 := by rw [nD_len]; omega
    by_cases hz : 0 < z
    · have e4 := gtI_t hz
      refine ⟨[some (.sh (.int c)), some (.sh (.int n)), some (.ow true (.list (nD cs))), some (.sh (.int p))], .ok .next [some (.sh (.int c)), some (.sh (.int n)), some (.ow true (.list (nD cs ++ [.int p]))), some (.sh (.int ((p : Int) + 1 + 1)))], ?_, ?_, 100 - (p + 2), by omega, cs ++ [p], p + 2, ?_, rfl, by omega, by simp; omega, ?_⟩
      · repeat' (first | (with_reducible first | assumption | exact v_sh | exact tg_sh | exact look0 | apply lookS | exact set0 | apply setS | exact g_val | apply g_var | exact ga_nil | apply ga_cons | apply own_of | exact const_of | exact nilB_of | exact sNil_of | apply op_of | apply val_of | apply consB_of | apply op2_of | apply call_of | apply test2_of | apply append_of | apply seq_of | apply if_of | apply expr_of | apply asg_of | apply modI_of | apply divI_of | apply ValK.ok | apply Op2K.ok | apply Op2L.ok | apply CallK.ok | apply ConsBL.ok | apply ConsBK.ok | apply Test2L.ok | apply Test2K.ok | apply ExprK.ok | apply AsgK.ok | apply SeqK.next | apply IfK.t | apply IfK.f) | exact ce_ok rfl | exact (rfl : listFree _ = true) | exact var_sh rfl | exact (rfl : (_ : Option _) = some _) | decide)
      · repeat' (first | (with_reducible first | assumption | exact v_sh | exact tg_sh | exact look0 | apply lookS | exact set0 | apply setS | exact g_val | apply g_var | exact ga_nil | apply ga_cons | apply own_of | exact const_of | exact nilB_of | exact sNil_of | apply op_of | apply val_of | apply consB_of | apply op2_of | apply call_of | apply test2_of | apply append_of | apply seq_of | apply if_of | apply expr_of | apply asg_of | apply modI_of | apply divI_of | apply ValK.ok | apply Op2K.ok | apply Op2L.ok | apply CallK.ok | apply ConsBL.ok | apply ConsBK.ok | apply Test2L.ok | apply Test2K.ok | apply ExprK.ok | apply AsgK.ok | apply SeqK.next | apply IfK.t | apply IfK.f) | exact ce_ok rfl | exact (rfl : listFree _ = true) | exact var_sh rfl | exact (rfl : (_ : Option _) = some _) | decide)
      · rw [show ((p : Int) + 1 + 1) = ((p + 2 : Nat) : Int) from rfl]
        unfold nD; rw [List.map_append]; rfl
      · intro r hr
        rw [List.append_assoc]
        refine hc _ ?_
        show (decide _ && decide _ && chOk n (p + 2) r) = true
        rw [hr, decide_eq_true (Nat.le_refl _), decide_eq_true (by omega)]; rfl
    · have e4 := gtI_f hz
      refine ⟨[some (.sh (.int c)), some (.sh (.int n)), some (.ow true (.list (nD cs))), some (.sh (.int p))], .ok .next [some (.sh (.int c)), some (.sh (.int n)), some (.ow true (.list (nD cs))), some (.sh (.int ((p : Int) + 1)))], ?_, ?_, 100 - (p + 1), by omega, cs, p + 1, ?_, rfl, by omega, by omega, ?_⟩
      · repeat' (first | (with_reducible first | assumption | exact v_sh | exact tg_sh | exact look0 | apply lookS | exact set0 | apply setS | exact g_val | apply g_var | exact ga_nil | apply ga_cons | apply own_of | exact const_of | exact nilB_of | exact sNil_of | apply op_of | apply val_of | apply consB_of | apply op2_of | apply call_of | apply test2_of | apply append_of | apply seq_of | apply if_of | apply expr_of | apply asg_of | apply modI_of | apply divI_of | apply ValK.ok | apply Op2K.ok | apply Op2L.ok | apply CallK.ok | apply ConsBL.ok | apply ConsBK.ok | apply Test2L.ok | apply Test2K.ok | apply ExprK.ok | apply AsgK.ok | apply SeqK.next | apply IfK.t | apply IfK.f) | exact ce_ok rfl | exact (rfl : listFree _ = true) | exact var_sh rfl | exact (rfl : (_ : Option _) = some _) | decide)
      · repeat' (first | (with_reducible first | assumption | exact v_sh | exact tg_sh | exact look0 | apply lookS | exact set0 | apply setS | exact g_val | apply g_var | exact ga_nil | apply ga_cons | apply own_of | exact const_of | exact nilB_of | exact sNil_of | apply op_of | apply val_of | apply consB_of | apply op2_of | apply call_of | apply test2_of | apply append_of | apply seq_of | apply if_of | apply expr_of | apply asg_of | apply modI_of | apply divI_of | apply ValK.ok | apply Op2K.ok | apply Op2L.ok | apply CallK.ok | apply ConsBL.ok | apply ConsBK.ok | apply Test2L.ok | apply Test2K.ok | apply ExprK.ok | apply AsgK.ok | apply SeqK.next | apply IfK.t | apply IfK.f) | exact ce_ok rfl | exact (rfl : listFree _ = true) | exact var_sh rfl | exact (rfl : (_ : Option _) = some _) | decide)
      · rfl
      · intro r hr
        refine hc r ?_
        cases r with
        | nil => rfl
        | cons q r =>
          rw [chOk] at hr ⊢
          simp only [Bool.and_eq_true, decide_eq_true_eq] at hr ⊢
          exact ⟨⟨by omega, hr.1.2⟩, hr.2⟩
  · left
    have e1 := ltI_f hpn
    refine ⟨[some (.sh (.int c)), some (.sh (.int n)), some (.ow true (.list (nD cs))), some (.sh (.int p))], ?_, cs, _, rfl, ?_⟩
    · repeat' (first | (with_reducible first | assumption | exact v_sh | exact tg_sh | exact look0 | apply lookS | exact set0 | apply setS | exact g_val | apply g_var | exact ga_nil | apply ga_cons | apply own_of | exact const_of | exact nilB_of | exact sNil_of | apply op_of | apply val_of | apply consB_of | apply op2_of | apply call_of | apply test2_of | apply append_of | apply seq_of | apply if_of | apply expr_of | apply asg_of | apply modI_of | apply divI_of | apply ValK.ok | apply Op2K.ok | apply Op2L.ok | apply CallK.ok | apply ConsBL.ok | apply ConsBK.ok | apply Test2L.ok | apply Test2K.ok | apply ExprK.ok | apply AsgK.ok | apply SeqK.next | apply IfK.t | apply IfK.f) | exact ce_ok rfl | exact (rfl : listFree _ = true) | exact var_sh rfl | exact (rfl : (_ : Option _) = some _) | decide)
    · have := hc [] rfl
      rwa [List.append_nil] at this
theorem eq_nil_nD (cs : List Nat) : eqI (.list (nD cs)) (.list []) = some (.sh (.bool (decide (cs = [])))) := by
  have := eqI_list (cs.map fun (p : Nat) => (p : Int)) []
  rw [← nD_iL] at this
  rw [show (D.list (iL [])) = .list [] from rfl] at this
  rw [this]
  congr 3
  unfold eqB
  exact decide_eq_decide.mpr List.map_eq_nil_iff
theorem F_law_change_ok (K : Frag) (c : Int) (n : Nat) (h3 : 3 ≤ n) (h12 : n ≤ 12) : ∃ cs, F_law_change K [.int c, .int n] = .ok (.sh (.tup (nD cs))) ∧ Change n cs := by
  obtain ⟨r, h1, cs, v, rfl, hc⟩ := change_loop K c n h3 h12
  have e1 := eq_nil_nD cs
  have hl := chOk_len hc (Nat.zero_le _)
  by_cases hz : cs = []
  · subst hz
    rw [decide_eq_true rfl] at e1
    have e2 := F_law_mix_ok K c 20 (small_of (by decide))
    obtain ⟨p, hp, hpn⟩ := fmod_nat (mix c 20) (n := n - 1) (by omega)
    have e0 : (subI (.int n) (.int 1)) = some (.sh (.int ((n : Int) - 1))) := rfl
    have e3 : modI (.int (mix c 20)) (.int ((n : Int) - 1)) = some (.sh (.int p)) := by rw [modI_of (by omega), show ((n : Int) - 1) = ((n - 1 : Nat) : Int) by omega, hp]
    refine ⟨[p], ?_, by simp, ?_⟩
    · have e4 : tupleI [.list [.int p]] = some (.sh (.tup (nD [p]))) := tuple_list (ds := [.int p]) (by simp)
      unfold F_law_change f_law_change
      refine' run_of [some (.sh (.int c)), some (.sh (.int n)), none, none] rfl rfl ?_ fin_ret
      repeat' (first | (with_reducible first | assumption | exact v_sh | exact v_ow | exact tg_sh | exact tg_ow | exact look0 | apply lookS | exact set0 | apply setS | exact g_val | apply g_var | exact ga_nil | apply ga_cons | exact len0 | apply lenC | exact const_of | exact nilB_of | exact nil_of | exact sNil_of | apply op_of | apply val_of | apply opN_of | apply consB_of | apply op2_of | apply call_of | apply cons_of | apply test2_of | apply lst_of | apply seq_of | apply if_of | apply ret_of | apply asg_of | apply modI_of | apply ValK.ok | apply Op2K.ok | apply Op2L.ok | apply OpNK.ok | apply CallK.ok | apply ConsBL.ok | apply ConsBK.ok | apply ConsL.ok | apply ConsK.ok | apply LstK.ok | apply Test2L.ok | apply Test2K.ok | apply RetK.ok | apply AsgK.ok | apply SeqK.next | exact SeqK.ret | apply IfK.t | apply IfK.f) | exact ce_ok rfl | exact (rfl : listFree _ = true) | exact (rfl : (_ : Option _) = some _) | decide)
    · show (decide _ && decide _ && true) = true
      rw [decide_eq_true (Nat.zero_le _), decide_eq_true (by omega)]; rfl
  · rw [decide_eq_false hz] at e1
    refine ⟨cs, ?_, hz, hc⟩
    have e4 := tuple_list (ds := nD cs) (by rw [nD_len]; omega)
    unfold F_law_change f_law_change
    refine' run_of [some (.sh (.int c)), some (.sh (.int n)), none, none] rfl rfl ?_ fin_ret
    repeat' (first | (with_reducible first | assumption | exact v_sh | exact v_ow | exact tg_sh | exact tg_ow | exact look0 | apply lookS | exact set0 | apply setS | exact g_val | apply g_var | exact ga_nil | apply ga_cons | exact len0 | apply lenC | exact const_of | exact nilB_of | exact nil_of | exact sNil_of | apply op_of | apply val_of | apply opN_of | apply consB_of | apply op2_of | apply call_of | apply cons_of | apply test2_of | apply lst_of | apply seq_of | apply if_of | apply ret_of | apply asg_of | apply modI_of | apply ValK.ok | apply Op2K.ok | apply Op2L.ok | apply OpNK.ok | apply CallK.ok | apply ConsBL.ok | apply ConsBK.ok | apply ConsL.ok | apply ConsK.ok | apply LstK.ok | apply Test2L.ok | apply Test2K.ok | apply RetK.ok | apply AsgK.ok | apply SeqK.next | exact SeqK.ret | apply IfK.t | apply IfK.f) | exact ce_ok rfl | exact (rfl : listFree _ = true) | exact (rfl : (_ : Option _) = some _) | decide)
structure ExcI (K : Frag) (C : Addr) (i : Nat) : Prop where
  e1 : isInstI K [.exc C, .glob (.ref 44)] = some (.sh (.bool (i == 0)))
  e2 : isInstI K [.exc C, .glob (.ref 56)] = some (.sh (.bool (i == 1)))
  e3 : isInstI K [.exc C, .glob (.ref 68)] = some (.sh (.bool (i == 2)))
  e4 : isInstI K [.exc C, .glob (.ref 80)] = some (.sh (.bool (i == 3)))
  e5 : isInstI K [.exc C, .glob (.ref 92)] = some (.sh (.bool (i == 4)))
  e6 : isInstI K [.exc C, .glob (.ref 104)] = some (.sh (.bool (i == 5)))
  e7 : isInstI K [.exc C, .glob (.ref 116)] = some (.sh (.bool (i == 6)))
  e8 : isInstI K [.exc C, .glob (.type "ValueError")] = some (.sh (.bool true))
  m : (W.mroIn K C (.ref 31) == some true) = true
noncomputable def wordOf : Nat → Str
  | 0 => "bells"
  | 1 => "row"
  | 2 => "change"
  | 3 => "method"
  | 4 => "call"
  | 5 => "count"
  | _ => "text"
noncomputable def told (x : Str) : T := .ow true (.list [.str "refused", .str x])
noncomputable def someW (i : Nat) : List D := [.tup [.str "bells", .bool (i == 0)], .tup [.str "row", .bool (i == 1)], .tup [.str "change", .bool (i == 2)], .tup [.str "method", .bool (i == 3)], .tup [.str "call", .bool (i == 4)], .tup [.str "count", .bool (i == 5)], .tup [.str "text", .bool (i == 6)]]
theorem word_comp (K : Frag) (C : Addr) (i : Nat) (hi : i < 7) (h : ExcI K C i) : compN (bTuple [1, 2]) (eAnd (eTruth (eOp 2)) (eAnd (eTruth (eVal (eOpN (isInstI K) (eConsB (eOp 3) (eConsB (eVal (eConst (.glob (.type "ValueError")))) eNilB))))) eAndNil)) (eVar 1) [none, none, none, some (.sh (.exc C))] (someW i) [] = some [.str (wordOf i)] := by
  have := compN_step (b := bTuple [1, 2]) (t := eAnd (eTruth (eOp 2)) (eAnd (eTruth (eVal (eOpN (isInstI K) (eConsB (eOp 3) (eConsB (eVal (eConst (.glob (.type "ValueError")))) eNilB))))) eAndNil)) (f := eVar 1) (ρ₀ := [none, none, none, some (.sh (.exc C))]) (q := fun d => match d with | .tup [_, .bool b] => b | _ => false) (g := fun d => match d with | .tup [x, _] => x | _ => .none) (someW i) [] (fun d hd => ?_) (by simp [someW])
  · rw [this]
    have : i = 0 ∨ i = 1 ∨ i = 2 ∨ i = 3 ∨ i = 4 ∨ i = 5 ∨ i = 6 := by omega
    rcases this with rfl | rfl | rfl | rfl | rfl | rfl | rfl <;> rfl
  · have : ∃ x b, d = .tup [.str x, .bool b] := by
      simp only [someW, List.mem_cons, List.not_mem_nil, or_false] at hd
      rcases hd with rfl | rfl | rfl | rfl | rfl | rfl | rfl <;> exact ⟨_, _, rfl⟩
    obtain ⟨x, b, rfl⟩ := this
    have e8 := h.e8
    refine ⟨[none, some (.sh (.str x)), some (.sh (.bool b)), some (.sh (.exc C))], [none, some (.sh (.str x)), some (.sh (.bool b)), some (.sh (.exc C))], rfl, ?_, fun _ => ⟨.sh (.str x), _, rfl, rfl⟩⟩
    cases b with
    | true => show _ = Res.ok true _; repeat' (first | (with_reducible first | assumption | exact v_sh | exact tg_sh | exact look0 | apply lookS | exact g_val | apply g_var | exact ga_nil | apply ga_cons | exact const_of | exact nilB_of | exact andNil_of | apply op_of | apply val_of | apply opN_of | apply consB_of | apply truth_of | apply and_of | apply ValK.ok | apply OpNK.ok | apply ConsBL.ok | apply ConsBK.ok | apply TruthK.ok | apply AndK.t | exact AndK.f) | exact (rfl : listFree _ = true) | exact (rfl : (_ : Option _) = some _) | decide)
    | false => show _ = Res.ok false _; repeat' (first | (with_reducible first | assumption | exact v_sh | exact tg_sh | exact look0 | apply lookS | exact g_val | apply g_var | exact ga_nil | apply ga_cons | exact const_of | exact nilB_of | exact andNil_of | apply op_of | apply val_of | apply opN_of | apply consB_of | apply truth_of | apply and_of | apply ValK.ok | apply OpNK.ok | apply ConsBL.ok | apply ConsBK.ok | apply TruthK.ok | apply AndK.t | exact AndK.f) | exact (rfl : listFree _ = true) | exact (rfl : (_ : Option _) = some _) | decide)
theorem F_law_word_ok (K : Frag) (C : Addr) (i : Nat) (hi : i < 7) (h : ExcI K C i) : F_law_word K [.exc C] = .ok (told (wordOf i)) := by
  have hc := word_comp K C i hi h
  generalize wordOf i = w at hc
  obtain ⟨e1, e2, e3, e4, e5, e6, e7, e8, m⟩ := h
  unfold someW at hc
  generalize (i == 0) = b0 at *
  generalize (i == 1) = b1 at *
  generalize (i == 2) = b2 at *
  generalize (i == 3) = b3 at *
  generalize (i == 4) = b4 at *
  generalize (i == 5) = b5 at *
  generalize (i == 6) = b6 at *
  have a1 : addD (.list [.tup [.str "bells", .bool b0], .tup [.str "row", .bool b1], .tup [.str "change", .bool b2]]) (.list [.tup [.str "method", .bool b3], .tup [.str "call", .bool b4]]) = some (.ow true (.list [.tup [.str "bells", .bool b0], .tup [.str "row", .bool b1], .tup [.str "change", .bool b2], .tup [.str "method", .bool b3], .tup [.str "call", .bool b4]])) := rfl
  have a2 : addD (.list [.tup [.str "bells", .bool b0], .tup [.str "row", .bool b1], .tup [.str "change", .bool b2], .tup [.str "method", .bool b3], .tup [.str "call", .bool b4]]) (.list [.tup [.str "count", .bool b5], .tup [.str "text", .bool b6]]) = some (.ow true (.list [.tup [.str "bells", .bool b0], .tup [.str "row", .bool b1], .tup [.str "change", .bool b2], .tup [.str "method", .bool b3], .tup [.str "call", .bool b4], .tup [.str "count", .bool b5], .tup [.str "text", .bool b6]])) := rfl
  have a3 : lenI [.list [.str w]] = some (.sh (.int 1)) := lenI_list (by simp)
  have a4 := eqI_t 1
  unfold F_law_word f_law_word told
  refine' run_of [some (.sh (.exc C)), none, none] rfl rfl ?_ fin_ret
  repeat' (first | (with_reducible first | assumption | exact v_sh | exact v_ow | exact tg_sh | exact tg_ow | exact look0 | apply lookS | exact set0 | apply setS | exact g_val | apply g_var | exact ga_nil | apply ga_cons | exact ci_nil | apply ci_none | apply ci_some | exact w_sh | exact len0 | apply lenC | exact const_of | exact nilB_of | exact nil_of | apply op_of | apply val_of | apply opN_of | apply consB_of | apply op2_of | apply cons_of | apply test2_of | apply tup_of | apply lst_of | apply items_of | apply compI_of | apply seq_of | apply if_of | apply ret_of | apply asg_of | apply ValK.ok | apply Op2K.ok | apply Op2L.ok | apply OpNK.ok | apply ConsBL.ok | apply ConsBK.ok | apply ConsL.ok | apply ConsK.ok | apply TupK.ok | apply LstK.ok | apply Test2L.ok | apply Test2K.ok | apply ItemsK.ok | apply RetK.ok | apply AsgK.ok | apply SeqK.next | exact SeqK.ret | apply IfK.t | exact il0) | exact (rfl : listFree _ = true) | apply var_ow rfl | exact (rfl : (_ : Option _) = some _) | decide)
theorem eq_told (x : Str) (hx : PyData.strOk x = true) : eqI (.list [.str "refused", .str x]) (.list [.str "refused", .str x]) = some (.sh (.bool true)) := eqI_of (eqD_told x "refused" hx so_refused)
end Mine
end

section
set_option Elab.async false
set_option maxRecDepth 100000
set_option maxHeartbeats 4000000
set_option linter.unusedSimpArgs false
set_option linter.unusedVariables false
namespace Mine
open PySem PySem.W
noncomputable def rowsD (l : List (List Int)) : List D := l.map fun a => D.tup (iL a)
noncomputable def chD (chs : List (List Nat)) : List D := chs.map fun c => D.tup (nD c)
noncomputable def leadL (a : List Int) : List (List Nat) → List (List Int)
  | [] => [a]
  | c :: cs => a :: leadL (rung a c) cs
theorem leadL_len (chs : List (List Nat)) : ∀ a, (leadL a chs).length = chs.length + 1 := by
  induction chs with
  | nil => intro a; rfl
  | cons c cs ih => intro a; rw [leadL, List.length_cons, ih, List.length_cons]
theorem rowsD_len (l : List (List Int)) : (rowsD l).length = l.length := by unfold rowsD; simp
structure Chs (n : Nat) (chs : List (List Nat)) : Prop where
  h3 : 3 ≤ n
  h12 : n ≤ 12
  len : chs.length ≤ 30
  all : ∀ c ∈ chs, Change n c
noncomputable def mth (n : Nat) (chs ws : List (List Nat)) : D := .obj 238 ["bells", "steps", "ways"] [.int n, .list (chD chs), .list (chD ws)]
theorem last_idx {l : List (List Int)} {a : List Int} (hl : l.length ≤ 1000) : idxI (.list (rowsD (l ++ [a]))) (.int (-1)) = some (.sh (.tup (iL a))) := by
  have := idxI_last (ds := rowsD l) (d := .tup (iL a)) (by rw [rowsD_len]; exact hl)
  rw [show rowsD (l ++ [a]) = rowsD l ++ [.tup (iL a)] from List.map_append]
  exact this
theorem rowsD_app (l : List (List Int)) (a : List Int) : rowsD l ++ [.tup (iL a)] = rowsD (l ++ [a]) := by unfold rowsD; rw [List.map_append]; rfl
theorem lead_loop (K : Frag) {n : Nat} {dself dhead : D} (hn : n ≤ 12) (chs : List (List Nat)) : (∀ c ∈ chs, Change n c) → chs.length ≤ 100 → ∀ (pre : List (List Int)) (a : List Int) (v : Option T), a.length = n → pre.length + chs.length ≤ 200 →
    ∃ v', forN (bName 3) (sSeq (sExpr (eVal (eAppend 2 (eCall (F_swapped K) (eConsB (eVal (eOp2 idxI (eOp 2) (eVal (eOp1 negI (eVal (eConst (.int 1))))))) (eConsB (eOp 3) eNilB)))))) sNil) (chD chs) [some (.sh dself), some (.sh dhead), some (.ow true (.list (rowsD (pre ++ [a])))), v] = .ok .next [some (.sh dself), some (.sh dhead), some (.ow true (.list (rowsD (pre ++ leadL a chs)))), v'] := by
  induction chs with
  | nil => intro hc hl pre a v ha hp; exact ⟨v, rfl⟩
  | cons c cs ih =>
    intro hc hl pre a v ha hp
    rw [List.length_cons] at hl hp
    have hcc := hc c (.head _)
    have e1 := F_swapped_ok K ha hn hcc.ok
    have e2 := last_idx (l := pre) (a := a) (by omega)
    have hlen : (rowsD (pre ++ [a])).length ≤ 1000000 := by rw [rowsD_len, List.length_append]; simp; omega
    have e3 : negI (.int 1) = some (.sh (.int (-1))) := rfl
    obtain ⟨v', h⟩ := ih (fun x hx => hc x (.tail _ hx)) (by omega) (pre ++ [a]) (rung a c) (some (.sh (.tup (nD c)))) (by rw [rung_len]; exact ha) (by rw [List.length_append]; simp; omega)
    refine ⟨v', ?_⟩
    rw [show leadL a (c :: cs) = [a] ++ leadL (rung a c) cs from rfl, ← List.append_assoc]
    rw [← rowsD_app (pre ++ [a])] at h
    show forN _ _ (D.tup (nD c) :: chD cs) _ = _
    repeat' (first | (with_reducible first | assumption | exact v_sh | exact tg_sh | exact tg_ow | exact look0 | apply lookS | exact set0 | apply setS | exact g_val | apply g_var | exact ga_nil | apply ga_cons | apply own_of | exact const_of | exact nilB_of | exact sNil_of | apply op_of | apply val_of | apply consB_of | apply op2_of | apply call_of | apply op1_of | apply append_of | apply seq_of | apply expr_of | apply ValK.ok | apply Op1K.ok | apply Op2K.ok | apply Op2L.ok | apply CallK.ok | apply ConsBL.ok | apply ConsBK.ok | apply ExprK.ok | apply SeqK.next | apply for_cons | apply bName_of | apply ForL.next) | exact ce_ok rfl | exact (rfl : listFree _ = true) | exact (rfl : (_ : Option _) = some _) | decide)
theorem law_lead_loop (K : Frag) {n : Nat} {dhead dinner : D} (hn : n ≤ 12) (chs : List (List Nat)) : (∀ c ∈ chs, Change n c) → chs.length ≤ 100 → ∀ (pre : List (List Int)) (a : List Int) (v : Option T), a.length = n → pre.length + chs.length ≤ 200 →
    ∃ v', forN (bName 3) (sSeq (sExpr (eVal (eAppend 2 (eCall (F_law_rung K) (eConsB (eVal (eOp2 idxI (eOp 2) (eVal (eOp1 negI (eVal (eConst (.int 1))))))) (eConsB (eOp 3) eNilB)))))) sNil) (chD chs) [some (.sh dhead), some (.sh dinner), some (.ow true (.list (rowsD (pre ++ [a])))), v] = .ok .next [some (.sh dhead), some (.sh dinner), some (.ow true (.list (rowsD (pre ++ leadL a chs)))), v'] := by
  induction chs with
  | nil => intro hc hl pre a v ha hp; exact ⟨v, rfl⟩
  | cons c cs ih =>
    intro hc hl pre a v ha hp
    rw [List.length_cons] at hl hp
    have hcc := hc c (.head _)
    have e1 := F_law_rung_ok K ha hn hcc.ok
    have e2 := last_idx (l := pre) (a := a) (by omega)
    have hlen : (rowsD (pre ++ [a])).length ≤ 1000000 := by rw [rowsD_len, List.length_append]; simp; omega
    have e3 : negI (.int 1) = some (.sh (.int (-1))) := rfl
    obtain ⟨v', h⟩ := ih (fun x hx => hc x (.tail _ hx)) (by omega) (pre ++ [a]) (rung a c) (some (.sh (.tup (nD c)))) (by rw [rung_len]; exact ha) (by rw [List.length_append]; simp; omega)
    refine ⟨v', ?_⟩
    rw [show leadL a (c :: cs) = [a] ++ leadL (rung a c) cs from rfl, ← List.append_assoc]
    rw [← rowsD_app (pre ++ [a])] at h
    show forN _ _ (D.tup (nD c) :: chD cs) _ = _
    repeat' (first | (with_reducible first | assumption | exact v_sh | exact tg_sh | exact tg_ow | exact look0 | apply lookS | exact set0 | apply setS | exact g_val | apply g_var | exact ga_nil | apply ga_cons | apply own_of | exact const_of | exact nilB_of | exact sNil_of | apply op_of | apply val_of | apply consB_of | apply op2_of | apply call_of | apply op1_of | apply append_of | apply seq_of | apply expr_of | apply ValK.ok | apply Op1K.ok | apply Op2K.ok | apply Op2L.ok | apply CallK.ok | apply ConsBL.ok | apply ConsBK.ok | apply ExprK.ok | apply SeqK.next | apply for_cons | apply bName_of | apply ForL.next) | exact ce_ok rfl | exact (rfl : listFree _ = true) | exact (rfl : (_ : Option _) = some _) | decide)
theorem F_need_head_ok (K : Frag) {n : Nat} {a : List Int} {chs ws : List (List Nat)} (ra : Row n a) : F_Method_need_head K [mth n chs ws, .tup (iL a)] = .ok (.sh .none) := by
  have e1 := F_is_row_row K ra
  have e2 := lenI_tup (ds := iL a) (by rw [iL_length, ra.len]; have := ra.h12; omega)
  rw [iL_length, ra.len] at e2
  have e3 := neI_f (n : Int)
  unfold F_Method_need_head f_Method_need_head
  refine' run_of [some (.sh (mth n chs ws)), some (.sh (.tup (iL a)))] rfl rfl ?_ fin_next
  unfold mth
  repeat' (first | (with_reducible first | assumption | exact v_sh | exact tg_sh | exact look0 | apply lookS | exact g_val | apply g_var | exact ga_nil | apply ga_cons | exact ng_int | exact nilB_of | exact orNil_of | exact sNil_of | apply op_of | apply val_of | apply opN_of | apply consB_of | apply call_of | apply truth_of | apply test2_of | apply not_of | apply or_of | apply seq_of | apply if_of | apply attr_of | apply ValK.ok | apply OpNK.ok | apply CallK.ok | apply ConsBL.ok | apply ConsBK.ok | apply TruthK.ok | apply Test2L.ok | apply Test2K.ok | exact NotK.t | apply OrK.f | apply SeqK.next | apply IfK.f) | exact ce_ok rfl | exact (rfl : listFree _ = true) | exact (rfl : (_ : Option _) = some _) | decide)
theorem F_need_head_bad (K : Frag) {n : Nat} {d : D} {chs ws : List (List Nat)} (h : F_is_row K [d] = .ok (.sh (.bool false))) : F_Method_need_head K [mth n chs ws, d] = .exc 56 := by
  unfold F_Method_need_head f_Method_need_head
  refine' run_of [some (.sh (mth n chs ws)), some (.sh d)] rfl rfl ?_ fin_exc
  unfold mth
  repeat' (first | (with_reducible first | assumption | exact v_sh | exact tg_sh | exact look0 | apply lookS | exact g_val | apply g_var | exact ga_nil | apply ga_cons | exact len0 | apply lenC | exact const_of | exact nilB_of | exact nil_of | apply op_of | apply val_of | apply consB_of | apply call_of | apply cons_of | apply truth_of | apply not_of | apply or_of | apply seq_of | apply if_of | apply raise_of | apply ValK.ok | apply CallK.ok | apply ConsBL.ok | apply ConsBK.ok | apply ConsL.ok | apply ConsK.ok | apply TruthK.ok | exact NotK.f | exact OrK.t | exact SeqK.exc | apply IfK.t) | exact ce_ok rfl | exact (rfl : listFree _ = true) | exact (rfl : (_ : Option _) = some _) | decide)
theorem F_need_head_len (K : Frag) {n : Nat} {ds : List D} {chs ws : List (List Nat)} (h : F_is_row K [.tup ds] = .ok (.sh (.bool true))) (hl : ds.length ≤ 1000000) (hn : ds.length ≠ n) : F_Method_need_head K [mth n chs ws, .tup ds] = .exc 56 := by
  have e2 := lenI_tup (ds := ds) hl
  have e3 := neI_t (a := (ds.length : Int)) (b := (n : Int)) (by omega)
  unfold F_Method_need_head f_Method_need_head
  refine' run_of [some (.sh (mth n chs ws)), some (.sh (.tup ds))] rfl rfl ?_ fin_exc
  unfold mth
  repeat' (first | (with_reducible first | assumption | exact v_sh | exact tg_sh | exact look0 | apply lookS | exact g_val | apply g_var | exact ga_nil | apply ga_cons | exact len0 | apply lenC | exact ng_int | exact const_of | exact nilB_of | exact nil_of | apply op_of | apply val_of | apply opN_of | apply consB_of | apply call_of | apply cons_of | apply truth_of | apply test2_of | apply not_of | apply or_of | apply seq_of | apply if_of | apply raise_of | apply attr_of | apply ValK.ok | apply OpNK.ok | apply CallK.ok | apply ConsBL.ok | apply ConsBK.ok | apply ConsL.ok | apply ConsK.ok | apply TruthK.ok | apply Test2L.ok | apply Test2K.ok | exact NotK.t | exact OrK.t | apply OrK.f | exact SeqK.exc | apply IfK.t) | exact ce_ok rfl | exact (rfl : listFree _ = true) | exact (rfl : (_ : Option _) = some _) | decide)
theorem F_lead_ok (K : Frag) {n : Nat} {a : List Int} {chs ws : List (List Nat)} (ra : Row n a) (hc : Chs n chs) : F_Method_lead K [mth n chs ws, .tup (iL a)] = .ok (.ow true (.list (rowsD (leadL a chs)))) := by
  have e1 := F_need_head_ok K (chs := chs) (ws := ws) ra
  obtain ⟨v', h⟩ := lead_loop K (dself := mth n chs ws) (dhead := .tup (iL a)) ra.h12 chs hc.all (by have := hc.len; omega) [] a none ra.len (by have := hc.len; simp; omega)
  have h : forN (bName 3) (sSeq (sExpr (eVal (eAppend 2 (eCall (F_swapped K) (eConsB (eVal (eOp2 idxI (eOp 2) (eVal (eOp1 negI (eVal (eConst (.int 1))))))) (eConsB (eOp 3) eNilB)))))) sNil) (chD chs) [some (.sh (mth n chs ws)), some (.sh (.tup (iL a))), some (.ow true (.list [.tup (iL a)])), none] = .ok .next [some (.sh (mth n chs ws)), some (.sh (.tup (iL a))), some (.ow true (.list (rowsD (leadL a chs)))), v'] := h
  have e2 : itemsD (.list (chD chs)) = some (chD chs) := rfl
  unfold F_Method_lead f_Method_lead
  refine' run_of [some (.sh (mth n chs ws)), some (.sh (.tup (iL a))), none, none] rfl rfl ?_ fin_ret
  unfold mth at *
  repeat' (first | (with_reducible first | assumption | exact v_sh | exact tg_sh | exact look0 | apply lookS | exact set0 | apply setS | apply g_var | exact ga_nil | apply ga_cons | exact len0 | apply lenC | exact ng_list | exact nilB_of | exact nil_of | apply op_of | apply val_of | apply consB_of | apply cons_of | apply lst_of | apply items_of | apply seq_of | apply expr_of | apply asg_of | apply for_of | apply attr_of | apply mtd_of | apply ValK.ok | apply ConsBL.ok | apply ConsBK.ok | apply ConsL.ok | apply ConsK.ok | apply LstK.ok | apply ItemsK.ok | apply ExprK.ok | apply AsgK.ok | apply ForK.ok | apply SeqK.next | exact SeqK.ret | apply MtdK.ok) | exact ce_ok rfl | exact (rfl : listFree _ = true) | exact var_sh rfl | exact retVar_ow rfl | exact (rfl : (_ : Option _) = some _) | decide)
theorem F_lead_bad (K : Frag) {n : Nat} {d : D} {chs ws : List (List Nat)} (h : F_Method_need_head K [mth n chs ws, d] = .exc 56) : F_Method_lead K [mth n chs ws, d] = .exc 56 := by
  unfold F_Method_lead f_Method_lead
  refine' run_of [some (.sh (mth n chs ws)), some (.sh d), none, none] rfl rfl ?_ fin_exc
  unfold mth at *
  repeat' (first | (with_reducible first | assumption | exact tg_sh | exact look0 | apply lookS | apply g_var | exact ga_nil | apply ga_cons | exact ce_exc | exact nilB_of | apply op_of | apply val_of | apply consB_of | apply seq_of | apply expr_of | apply mtd_of | exact ValK.exc | apply ConsBL.ok | apply ConsBK.ok | exact ExprK.exc | exact SeqK.exc | apply MtdK.ok) | exact (rfl : listFree _ = true) | exact (rfl : (_ : Option _) = some _) | decide)
theorem F_law_lead_ok (K : Frag) {n : Nat} {a : List Int} {chs : List (List Nat)} (ha : a.length = n) (hc : Chs n chs) : F_law_lead K [.tup (iL a), .list (chD chs)] = .ok (.ow true (.list (rowsD (leadL a chs)))) := by
  obtain ⟨v', h⟩ := law_lead_loop K (dhead := .tup (iL a)) (dinner := .list (chD chs)) hc.h12 chs hc.all (by have := hc.len; omega) [] a none ha (by have := hc.len; simp; omega)
  have h : forN (bName 3) (sSeq (sExpr (eVal (eAppend 2 (eCall (F_law_rung K) (eConsB (eVal (eOp2 idxI (eOp 2) (eVal (eOp1 negI (eVal (eConst (.int 1))))))) (eConsB (eOp 3) eNilB)))))) sNil) (chD chs) [some (.sh (.tup (iL a))), some (.sh (.list (chD chs))), some (.ow true (.list [.tup (iL a)])), none] = .ok .next [some (.sh (.tup (iL a))), some (.sh (.list (chD chs))), some (.ow true (.list (rowsD (leadL a chs)))), v'] := h
  have e2 : itemsD (.list (chD chs)) = some (chD chs) := rfl
  unfold F_law_lead f_law_lead
  refine' run_of [some (.sh (.tup (iL a))), some (.sh (.list (chD chs))), none, none] rfl rfl ?_ fin_ret
  repeat' (first | (with_reducible first | assumption | exact v_sh | exact set0 | apply setS | exact len0 | apply lenC | exact nil_of | apply cons_of | apply lst_of | apply items_of | apply seq_of | apply asg_of | apply for_of | apply ConsL.ok | apply ConsK.ok | apply LstK.ok | apply ItemsK.ok | apply AsgK.ok | apply ForK.ok | apply SeqK.next | exact SeqK.ret) | exact (rfl : listFree _ = true) | exact var_sh rfl | exact retVar_ow rfl | exact (rfl : (_ : Option _) = some _) | decide)
end Mine
end

section
set_option Elab.async false
set_option maxRecDepth 100000
set_option maxHeartbeats 4000000
set_option linter.unusedSimpArgs false
set_option linter.unusedVariables false
namespace Mine
open PySem PySem.W
theorem rt_nil {ρ : AEnv} (h : allSh ρ = true) : runTail [] ρ = some [] := if_pos h
theorem rt_cons {ρ ρ₁ : AEnv} {n : Str} {f : AEnv → Res T} {fs : List (Str × (AEnv → Res T))} {t : T} {d : D} {ds : List D} (h : allSh ρ = true) (hf : f ρ = .ok t ρ₁) (hv : t.val = d) (hr : runTail fs ρ₁ = some ds) : runTail ((n, f) :: fs) ρ = some (d :: ds) := by
  subst hv
  refine (if_pos h).trans ?_
  conv => lhs; rw [hf]; whnf; rw [hr]
theorem runIn_of {n : Nat} {is : List Nat} {i₀ : Nat} {f : AEnv → Res Fl} {ts : List (Str × (AEnv → Res T))} {x : Addr} {ds es : List D} {ρ ρ₁ : AEnv} (hl : ds.length + 1 = is.length) (hi : initI n is (.glob (.ref x) :: ds) = ρ) (h : f ρ = .ok .next ρ₁) (hs : ρ₁[i₀]? = some (some (.sh (.glob (.ref x))))) (ht : runTail ts ρ₁ = some es) : runIn n is i₀ f ts x ds = .ok es := by
  subst hi
  refine (if_pos hl).trans ?_
  conv => lhs; whnf; rw [h]; whnf; rw [hs]
  refine (if_pos rfl).trans ?_
  conv => lhs; rw [ht]
theorem chD_len (l : List (List Nat)) : (chD l).length = l.length := by unfold chD; simp
theorem init_loop (K : Frag) {n : Nat} (h12 : n ≤ 12) {a b c : D} {chs : List (List Nat)} (h : ∀ x ∈ chs, Change n x) : ∀ v₀, isSh v₀ = true → ∃ v, isSh v = true ∧ forN (bName 4) (sSeq (sExpr (eVal (eCall (F_need_places K) (eConsB (eOp 1) (eConsB (eOp 4) eNilB))))) sNil) (chD chs) [some (.sh a), some (.sh (.int n)), some (.sh b), some (.sh c), v₀] = .ok .next [some (.sh a), some (.sh (.int n)), some (.sh b), some (.sh c), v] := by
  induction chs with
  | nil => intro v₀ hv; exact ⟨v₀, hv, rfl⟩
  | cons x xs ih =>
    intro v₀ _
    have e1 := F_need_places_ok K (h x (.head _)) h12
    obtain ⟨v, h1, h2⟩ := ih (fun y hy => h y (.tail _ hy)) (some (.sh (.tup (nD x)))) rfl
    refine ⟨v, h1, ?_⟩
    show forN _ _ (D.tup (nD x) :: chD xs) _ = _
    repeat' (first | (with_reducible first | assumption | exact v_sh | exact tg_sh | exact look0 | apply lookS | exact set0 | apply setS | apply g_var | exact ga_nil | apply ga_cons | exact nilB_of | exact sNil_of | apply op_of | apply val_of | apply consB_of | apply call_of | apply seq_of | apply expr_of | apply ValK.ok | apply CallK.ok | apply ConsBL.ok | apply ConsBK.ok | apply ExprK.ok | apply SeqK.next | apply for_cons | apply bName_of | apply ForL.next) | exact ce_ok rfl | exact (rfl : listFree _ = true) | exact (rfl : (_ : Option _) = some _) | decide)
theorem isList_eq (K : Frag) (ds : List D) : isInstI K [.list ds, .glob (.type "list")] = some (.sh (.bool true)) := by kernel_rfl
theorem listI_list {ds : List D} (h : ds.length ≤ 1000000) : listI [.list ds] = some (.ow true (.list ds)) := listI_l h
theorem I_Method_ok (K : Frag) {n : Nat} {chs ws : List (List Nat)} (hc : Chs n chs) (hw : ∀ c ∈ ws, Change n c) (h1 : 1 ≤ ws.length) (h4 : ws.length ≤ 4) : allX (I_Method K) [.int n, .list (chD chs), .list (chD ws)] = .ok [.int n, .list (chD chs), .list (chD ws)] := by
  refine allX_eq fun x => ?_
  have e1 := F_need_bells_ok K n (by have := hc.h3; omega) (by have := hc.h12; omega)
  have e2 := isList_eq K (chD chs)
  have e3 := isList_eq K (chD ws)
  have e4 := lenI_list (ds := chD chs) (by rw [chD_len]; have := hc.len; omega)
  have e5 := lenI_list (ds := chD ws) (by rw [chD_len]; omega)
  rw [chD_len] at e4 e5
  have e6 := gtI_f (a := (chs.length : Int)) (b := 30) (by have := hc.len; omega)
  have e7 := leI_t (a := 1) (b := (ws.length : Int)) (by omega)
  have e8 := leI_t (a := (ws.length : Int)) (b := 4) (by omega)
  have e9 : addD (.list (chD chs)) (.list (chD ws)) = some (.ow true (.list (chD (chs ++ ws)))) := by
    rw [addD_l (by rw [chD_len, chD_len]; have := hc.len; omega)]
    unfold chD; rw [List.map_append]
  obtain ⟨v, hv, h⟩ := init_loop K (a := .glob (.ref x)) (b := .list (chD chs)) (c := .list (chD ws)) hc.h12 (chs := chs ++ ws) (fun c hcm => (List.mem_append.mp hcm).elim (hc.all c) (hw c)) none rfl
  have e10 : itemsD (.list (chD (chs ++ ws))) = some (chD (chs ++ ws)) := rfl
  have e11 := listI_list (ds := chD chs) (by rw [chD_len]; have := hc.len; omega)
  have e12 := listI_list (ds := chD ws) (by rw [chD_len]; omega)
  have sh : allSh [some (.sh (.glob (.ref x))), some (.sh (.int n)), some (.sh (.list (chD chs))), some (.sh (.list (chD ws))), v] = true := by
    show (true && (true && (true && (true && (isSh v && true))))) = true
    rw [hv]; rfl
  unfold I_Method f_Method_init t_Method_init
  refine' runIn_of (ρ := [some (.sh (.glob (.ref x))), some (.sh (.int n)), some (.sh (.list (chD chs))), some (.sh (.list (chD ws))), none]) (ρ₁ := [some (.sh (.glob (.ref x))), some (.sh (.int n)), some (.sh (.list (chD chs))), some (.sh (.list (chD ws))), v]) rfl rfl ?_ rfl ?_
  · repeat' (first | (with_reducible first | assumption | exact v_sh | exact v_ow | exact tg_sh | exact look0 | apply lookS | exact g_val | apply g_var | exact ga_nil | apply ga_cons | exact const_of | exact nilB_of | exact orNil_of | exact sNil_of | apply op_of | apply val_of | apply opN_of | apply consB_of | apply op2_of | apply call_of | apply truth_of | apply test2_of | apply not_of | apply or_of | apply chain_of | apply items_of | apply seq_of | apply if_of | apply expr_of | apply for_of | apply ValK.ok | apply Op2K.ok | apply Op2L.ok | apply OpNK.ok | apply CallK.ok | apply ConsBL.ok | apply ConsBK.ok | apply TruthK.ok | apply Test2L.ok | apply Test2K.ok | apply ChainN.ok | apply ChainL.ok | apply ChainK.ok | apply ItemsK.ok | apply ExprK.ok | apply ForK.ok | exact NotK.t | apply OrK.f | apply ChainM.t | apply SeqK.next | apply IfK.f) | exact ce_ok rfl | exact (rfl : listFree _ = true) | exact var_sh rfl | exact (rfl : (_ : Option _) = some _) | decide)
  · refine' rt_cons sh (ρ₁ := [some (.sh (.glob (.ref x))), some (.sh (.int n)), some (.sh (.list (chD chs))), some (.sh (.list (chD ws))), v]) ?_ v_sh (rt_cons sh (ρ₁ := [some (.sh (.glob (.ref x))), some (.sh (.int n)), some (.sh (.list (chD chs))), some (.sh (.list (chD ws))), v]) ?_ v_ow (rt_cons sh (ρ₁ := [some (.sh (.glob (.ref x))), some (.sh (.int n)), some (.sh (.list (chD chs))), some (.sh (.list (chD ws))), v]) ?_ v_ow (rt_nil sh)))
    · exact var_sh rfl
    · repeat' (first | (with_reducible first | assumption | exact v_sh | exact v_ow | exact tg_sh | exact look0 | apply lookS | exact g_val | apply g_var | exact ga_nil | apply ga_cons | exact const_of | exact nilB_of | exact orNil_of | exact sNil_of | apply op_of | apply val_of | apply opN_of | apply consB_of | apply op2_of | apply call_of | apply truth_of | apply test2_of | apply not_of | apply or_of | apply chain_of | apply items_of | apply seq_of | apply if_of | apply expr_of | apply for_of | apply ValK.ok | apply Op2K.ok | apply Op2L.ok | apply OpNK.ok | apply CallK.ok | apply ConsBL.ok | apply ConsBK.ok | apply TruthK.ok | apply Test2L.ok | apply Test2K.ok | apply ChainN.ok | apply ChainL.ok | apply ChainK.ok | apply ItemsK.ok | apply ExprK.ok | apply ForK.ok | exact NotK.t | apply OrK.f | apply ChainM.t | apply SeqK.next | apply IfK.f) | exact ce_ok rfl | exact (rfl : listFree _ = true) | exact var_sh rfl | exact (rfl : (_ : Option _) = some _) | decide)
    · repeat' (first | (with_reducible first | assumption | exact v_sh | exact v_ow | exact tg_sh | exact look0 | apply lookS | exact g_val | apply g_var | exact ga_nil | apply ga_cons | exact const_of | exact nilB_of | exact orNil_of | exact sNil_of | apply op_of | apply val_of | apply opN_of | apply consB_of | apply op2_of | apply call_of | apply truth_of | apply test2_of | apply not_of | apply or_of | apply chain_of | apply items_of | apply seq_of | apply if_of | apply expr_of | apply for_of | apply ValK.ok | apply Op2K.ok | apply Op2L.ok | apply OpNK.ok | apply CallK.ok | apply ConsBL.ok | apply ConsBK.ok | apply TruthK.ok | apply Test2L.ok | apply Test2K.ok | apply ChainN.ok | apply ChainL.ok | apply ChainK.ok | apply ItemsK.ok | apply ExprK.ok | apply ForK.ok | exact NotK.t | apply OrK.f | apply ChainM.t | apply SeqK.next | apply IfK.f) | exact ce_ok rfl | exact (rfl : listFree _ = true) | exact var_sh rfl | exact (rfl : (_ : Option _) = some _) | decide)
theorem keyAt_append (k : List Int) (r : List (List Int)) : ∀ l : List (List Int), keyAt k (l ++ r) = match keyAt k l with | some j => some j | none => (keyAt k r).map (· + l.length)
  | [] => by show keyAt k r = (keyAt k r).map _; cases keyAt k r <;> rfl
  | x :: l => by
    rw [List.cons_append, keyAt, keyAt, keyAt_append k r l]
    split
    · rfl
    · cases keyAt k l with
      | some j => rfl
      | none =>
        cases keyAt k r with
        | none => rfl
        | some j => simp only [Option.map_some, Option.map_none, List.length_cons, Nat.add_assoc]
theorem keyAt_lt {k : List Int} {l : List (List Int)} {j : Nat} (h : keyAt k l = some j) : j < l.length := (List.getElem?_eq_some_iff.mp (keyAt_get h)).1
structure DInv (P ks : List (List Int)) (ds : List D) : Prop where
  len : ks.length = ds.length
  le : ks.length ≤ P.length
  at_ : ∀ k, (keyAt k ks).bind (fun j => ds[j]?) = (keyAt k P).map fun (i : Nat) => D.int i
theorem DInv.hit {P ks : List (List Int)} {ds : List D} (q : DInv P ks ds) {k : List Int} {j : Nat} (h : keyAt k ks = some j) : ∃ i, keyAt k P = some i ∧ ds[j]? = some (.int (i : Nat)) := by
  have e := q.at_ k
  rw [h] at e
  have hj : j < ds.length := by rw [← q.len]; exact keyAt_lt h
  simp only [Option.bind_some] at e
  rw [List.getElem?_eq_getElem hj] at e
  obtain ⟨i, h1, h2⟩ := Option.map_eq_some_iff.mp e.symm
  exact ⟨i, h1, by rw [List.getElem?_eq_getElem hj, h2]⟩
theorem DInv.miss {P ks : List (List Int)} {ds : List D} (q : DInv P ks ds) {k : List Int} (h : keyAt k ks = none) : keyAt k P = none := by
  have e := q.at_ k
  rw [h] at e
  cases hk : keyAt k P with
  | none => rfl
  | some i => rw [hk] at e; cases e
theorem DInv.old {P ks : List (List Int)} {ds : List D} (q : DInv P ks ds) {a : List Int} {j : Nat} (h : keyAt a ks = some j) : DInv (P ++ [a]) ks ds := by
  obtain ⟨i, h1, _⟩ := q.hit h
  refine ⟨q.len, by rw [List.length_append]; have := q.le; omega, fun k => ?_⟩
  rw [q.at_ k, keyAt_append]
  cases hk : keyAt k P with
  | some i => rfl
  | none =>
    by_cases hka : a = k
    · subst hka; rw [h1] at hk; cases hk
    · simp only [keyAt, if_neg hka, Option.map_none]
theorem DInv.new {P ks : List (List Int)} {ds : List D} (q : DInv P ks ds) {a : List Int} (h : keyAt a ks = none) : DInv (P ++ [a]) (ks ++ [a]) (ds ++ [.int (P.length : Nat)]) := by
  have hp := q.miss h
  refine ⟨by rw [List.length_append, List.length_append, q.len]; rfl, by rw [List.length_append, List.length_append]; have := q.le; simp; omega, fun k => ?_⟩
  rw [keyAt_append, keyAt_append]
  cases hk : keyAt k ks with
  | some j =>
    obtain ⟨i, h1, h2⟩ := q.hit hk
    rw [h1]
    simp only [Option.bind_some, Option.map_some]
    rw [List.getElem?_append_left (by rw [← q.len]; exact keyAt_lt hk), h2]
  | none =>
    rw [q.miss hk]
    by_cases hka : a = k
    · subst hka
      simp only [keyAt, if_pos, Option.map_some, Nat.zero_add, Option.bind_some]
      rw [q.len, List.getElem?_append_right (Nat.le_refl _), Nat.sub_self]; rfl
    · simp only [keyAt, if_neg hka, Option.map_none, Option.bind_none]
end Mine
end

section
set_option Elab.async false
set_option maxRecDepth 100000
set_option maxHeartbeats 4000000
set_option linter.unusedSimpArgs false
set_option linter.unusedVariables false
namespace Mine
open PySem PySem.W
noncomputable def pairD (x : Nat × Nat) : D := .tup [.int x.1, .int x.2]
noncomputable def resD : Option (Nat × Nat) → D
  | none => .none
  | some x => pairD x
noncomputable def metI (B : List (List Int)) : Nat → List (List Int) → Option (Nat × Nat)
  | _, [] => none
  | p, a :: r => match keyAt a B with
    | some j => some (p, j)
    | none => metI B (p + 1) r
noncomputable def enF (p : Nat) (l : List (List Int)) : List D := ((rowsD l).zipIdx p).map fun x => D.tup [.int x.2, x.1]
theorem enF_cons (p : Nat) (a : List Int) (l : List (List Int)) : enF p (a :: l) = .tup [.int p, .tup (iL a)] :: enF (p + 1) l := by
  unfold enF rowsD; rw [List.map_cons, List.zipIdx_cons, List.map_cons]
theorem enumL_rows (l : List (List Int)) : enumL (rowsD l) = enF 0 l := rfl
theorem asRow_tup (a : List Int) : asRow (.tup (iL a)) = some a := asRow_row a
theorem met_loop1 (K : Frag) {x0 x1 : D} : ∀ (rest P ks : List (List Int)) (ds : List D) (v3 v4 : Option T), DInv P ks ds → P.length + rest.length ≤ 1000 → ∃ ks' ds' v3' v4', DInv (P ++ rest) ks' ds' ∧
    forN (bTuple [3, 4]) (sSeq (sExpr (eVal (eSetDef 2 (eOp 4) (eOp 3)))) sNil) (enF P.length rest) [some (.sh x0), some (.sh x1), some (.ow true (.dict ks ds)), v3, v4] = .ok .next [some (.sh x0), some (.sh x1), some (.ow true (.dict ks' ds')), v3', v4'] := by
  intro rest
  induction rest with
  | nil => intro P ks ds v3 v4 q _; exact ⟨ks, ds, v3, v4, by rw [List.append_nil]; exact q, rfl⟩
  | cons a r ih =>
    intro P ks ds v3 v4 q hl
    rw [List.length_cons] at hl
    rw [enF_cons]
    have hks : ks.length ≤ 1000000 := by have := q.le; omega
    have hrow := asRow_tup a
    cases hk : keyAt a ks with
    | some j =>
      obtain ⟨i, h1, h2⟩ := q.hit hk
      obtain ⟨ks', ds', v3', v4', q', h⟩ := ih (P ++ [a]) ks ds (some (.sh (.int P.length))) (some (.sh (.tup (iL a)))) (q.old hk) (by rw [List.length_append]; simp; omega)
      rw [show (P ++ [a]).length = P.length + 1 by simp] at h
      refine ⟨ks', ds', v3', v4', by rw [List.append_assoc] at q'; exact q', ?_⟩
      have hs : eSetDef 2 (eOp 4) (eOp 3) [some (.sh x0), some (.sh x1), some (.ow true (.dict ks ds)), some (.sh (.int P.length)), some (.sh (.tup (iL a)))] = .ok (.sh (.int i)) [some (.sh x0), some (.sh x1), some (.ow true (.dict ks ds)), some (.sh (.int P.length)), some (.sh (.tup (iL a)))] :=
        setDef_old (dOwn_of rfl hks) rfl rfl rfl rfl rfl (dOwn_of rfl hks) hrow hk h2
      repeat' (first | (with_reducible first | assumption | exact v_sh | exact set0 | apply setS | exact sNil_of | apply val_of | apply seq_of | apply expr_of | apply dOwn_of | apply bTuple_of | apply ValK.ok | apply ExprK.ok | apply SeqK.next | apply for_cons | apply ForL.next) | exact (rfl : listFree _ = true) | exact (rfl : (_ : Option _) = some _) | decide)
    | none =>
      obtain ⟨ks', ds', v3', v4', q', h⟩ := ih (P ++ [a]) (ks ++ [a]) (ds ++ [.int (P.length : Nat)]) (some (.sh (.int P.length))) (some (.sh (.tup (iL a)))) (q.new hk) (by rw [List.length_append]; simp; omega)
      rw [show (P ++ [a]).length = P.length + 1 by simp] at h
      refine ⟨ks', ds', v3', v4', by rw [List.append_assoc] at q'; exact q', ?_⟩
      have hs : eSetDef 2 (eOp 4) (eOp 3) [some (.sh x0), some (.sh x1), some (.ow true (.dict ks ds)), some (.sh (.int P.length)), some (.sh (.tup (iL a)))] = .ok (.sh (.int P.length)) [some (.sh x0), some (.sh x1), some (.ow true (.dict (ks ++ [a]) (ds ++ [.int (P.length : Nat)]))), some (.sh (.int P.length)), some (.sh (.tup (iL a)))] :=
        setDef_new (dOwn_of rfl hks) rfl rfl rfl rfl rfl (dOwn_of rfl hks) hrow hk rfl
      repeat' (first | (with_reducible first | assumption | exact v_sh | exact set0 | apply setS | exact sNil_of | apply val_of | apply seq_of | apply expr_of | apply dOwn_of | apply bTuple_of | apply ValK.ok | apply ExprK.ok | apply SeqK.next | apply for_cons | apply ForL.next) | exact (rfl : listFree _ = true) | exact (rfl : (_ : Option _) = some _) | decide)
theorem met_loop2 (K : Frag) {x0 x1 : D} {B ks : List (List Int)} {ds : List D} (q : DInv B ks ds) : ∀ (rest : List (List Int)) (p : Nat) (v3 v4 : Option T), ∃ ρ,
    forN (bTuple [3, 4]) (sSeq (sIf (tInD false (eOp 4) 2) (sSeq (sRet (eTup (eCons (eVar 3) (eCons (eGetD 2 (eOp 4)) eNil)))) sNil) sNil) sNil) (enF p rest) [some (.sh x0), some (.sh x1), some (.ow true (.dict ks ds)), v3, v4] = (match metI B p rest with | some x => .ok (.ret (.sh (pairD x))) ρ | none => .ok .next ρ) := by
  intro rest
  induction rest with
  | nil => intro p v3 v4; exact ⟨_, rfl⟩
  | cons a r ih =>
    intro p v3 v4
    rw [enF_cons]
    have hrow := asRow_tup a
    cases hk : keyAt a ks with
    | some j =>
      obtain ⟨i, h1, h2⟩ := q.hit hk
      rw [metI, h1]
      refine ⟨[some (.sh x0), some (.sh x1), some (.ow true (.dict ks ds)), some (.sh (.int p)), some (.sh (.tup (iL a)))], ?_⟩
      have e1 : ((keyAt a ks).isSome != false) = true := by rw [hk]; rfl
      show _ = Res.ok (Fl.ret (T.sh (.tup [.int (p : Nat), .int (i : Nat)]))) _
      repeat' (first | (with_reducible first | assumption | exact v_sh | exact tg_sh | exact look0 | apply lookS | exact set0 | apply setS | apply g_var | exact len0 | apply lenC | exact nil_of | exact sNil_of | apply op_of | apply cons_of | apply tup_of | apply seq_of | apply if_of | apply ret_of | apply dAt_of | apply tInD_of | apply getD_of | apply bTuple_of | apply ConsL.ok | apply ConsK.ok | apply TupK.ok | apply RetK.ok | apply SeqK.next | exact SeqK.ret | apply IfK.t | apply IfK.f | apply for_cons | apply ForL.next | exact ForL.ret) | exact (rfl : listFree _ = true) | exact var_sh rfl | exact (rfl : (_ : Option _) = some _) | decide)
    | none =>
      rw [metI, q.miss hk]
      obtain ⟨ρ, h⟩ := ih (p + 1) (some (.sh (.int p))) (some (.sh (.tup (iL a))))
      refine ⟨ρ, ?_⟩
      have e1 : ((keyAt a ks).isSome != false) = false := by rw [hk]; rfl
      generalize (match metI B (p + 1) r with | some x => Res.ok (Fl.ret (.sh (pairD x))) ρ | none => .ok .next ρ) = X at h ⊢
      repeat' (first | (with_reducible first | assumption | exact v_sh | exact tg_sh | exact look0 | apply lookS | exact set0 | apply setS | apply g_var | exact len0 | apply lenC | exact nil_of | exact sNil_of | apply op_of | apply cons_of | apply tup_of | apply seq_of | apply if_of | apply ret_of | apply dAt_of | apply tInD_of | apply getD_of | apply bTuple_of | apply ConsL.ok | apply ConsK.ok | apply TupK.ok | apply RetK.ok | apply SeqK.next | exact SeqK.ret | apply IfK.t | apply IfK.f | apply for_cons | apply ForL.next | exact ForL.ret) | exact (rfl : listFree _ = true) | exact var_sh rfl | exact (rfl : (_ : Option _) = some _) | decide)
theorem F_met_in_ok (K : Frag) (A B : List (List Int)) (hB : B.length ≤ 1000) : F_met_in K [.list (rowsD A), .list (rowsD B)] = .ok (.sh (resD (metI B 0 A))) := by
  obtain ⟨ks, ds, v3, v4, q, h1⟩ := met_loop1 K (x0 := .list (rowsD A)) (x1 := .list (rowsD B)) B [] [] [] none none ⟨rfl, Nat.le_refl _, fun _ => rfl⟩ (by simpa using hB)
  obtain ⟨ρ, h2⟩ := met_loop2 K (x0 := .list (rowsD A)) (x1 := .list (rowsD B)) q A 0 v3 v4
  rw [List.nil_append] at h2
  rw [← enumL_rows] at h2
  have h1 : forN (bTuple [3, 4]) (sSeq (sExpr (eVal (eSetDef 2 (eOp 4) (eOp 3)))) sNil) (enumL (rowsD B)) [some (.sh (.list (rowsD A))), some (.sh (.list (rowsD B))), some (.ow true (.dict [] [])), none, none] = .ok .next [some (.sh (.list (rowsD A))), some (.sh (.list (rowsD B))), some (.ow true (.dict ks ds)), v3, v4] := h1
  unfold F_met_in f_met_in
  cases hm : metI B 0 A with
  | some x =>
    rw [hm] at h2
    simp only at h2
    show _ = FOut.ok (.sh (pairD x))
    refine' run_of [some (.sh (.list (rowsD A))), some (.sh (.list (rowsD B))), none, none, none] rfl rfl ?_ fin_ret
    repeat' (first | (with_reducible first | assumption | exact v_sh | exact set0 | apply setS | exact const_of | apply enum_of | apply seq_of | apply ret_of | apply for_of | apply newD_of | apply RetK.ok | apply ForK.ok | apply EnumK.list v_sh | apply EnumK.list v_ow | apply SeqK.next | exact SeqK.ret) | exact (rfl : listFree _ = true) | exact var_sh rfl | exact (rfl : (_ : Option _) = some _) | decide)
  | none =>
    rw [hm] at h2
    simp only at h2
    show _ = FOut.ok (.sh .none)
    refine' run_of [some (.sh (.list (rowsD A))), some (.sh (.list (rowsD B))), none, none, none] rfl rfl ?_ fin_ret
    repeat' (first | (with_reducible first | assumption | exact v_sh | exact set0 | apply setS | exact const_of | apply enum_of | apply seq_of | apply ret_of | apply for_of | apply newD_of | apply RetK.ok | apply ForK.ok | apply EnumK.list v_sh | apply EnumK.list v_ow | apply SeqK.next | exact SeqK.ret) | exact (rfl : listFree _ = true) | exact var_sh rfl | exact (rfl : (_ : Option _) = some _) | decide)
end Mine
end

section
set_option Elab.async false
set_option maxRecDepth 100000
set_option maxHeartbeats 4000000
set_option linter.unusedSimpArgs false
set_option linter.unusedVariables false
namespace Mine
open PySem PySem.W
noncomputable def dueJ (a : List Int) (same : Bool) (i : Nat) : Nat → List (List Int) → Option Nat
  | _, [] => none
  | p, b :: r => if a = b ∧ (same = false ∨ i < p) then some p else dueJ a same i (p + 1) r
noncomputable def dueI (B : List (List Int)) (same : Bool) : Nat → List (List Int) → Option (Nat × Nat)
  | _, [] => none
  | i, a :: r => match dueJ a same i 0 B with
    | some j => some (i, j)
    | none => dueI B same (i + 1) r
theorem rowsD_get {l : List (List Int)} {i : Nat} {a : List Int} (h : l[i]? = some a) : (rowsD l)[i]? = some (.tup (iL a)) := by unfold rowsD; rw [List.getElem?_map, h]; rfl
theorem idx_rows {l : List (List Int)} {i : Nat} {a : List Int} (h : l[i]? = some a) (hl : l.length ≤ 1000) : idxI (.list (rowsD l)) (.int i) = some (.sh (.tup (iL a))) := by
  have : i < l.length := (List.getElem?_eq_some_iff.mp h).1
  exact idxI_list (by omega) (by omega) (by rw [Int.toNat_natCast]; exact rowsD_get h)
theorem drop_cons {α : Type} {l r : List α} {b : α} {p : Nat} (h : l.drop p = b :: r) : l[p]? = some b ∧ l.drop (p + 1) = r := by
  have h1 : (l.drop p)[0]? = some b := by rw [h]; rfl
  rw [List.getElem?_drop, Nat.add_zero] at h1
  refine ⟨h1, ?_⟩
  rw [← List.drop_drop, h]; rfl
theorem due_inner (K : Frag) {x0 : D} {o1 o2 a : List Int} {A B : List (List Int)} {i : Nat} (ha : A[i]? = some a) (hA : A.length ≤ 1000) (hB : B.length ≤ 1000) : ∀ (rest : List (List Int)) (p : Nat) (v : Option T), B.drop p = rest → ∃ ρ v',
    forN (bName 6) (sSeq (sIf (eAnd (eTest2 eqI (eVal (eOp2 idxI (eOp 3) (eOp 5))) (eVal (eOp2 idxI (eOp 4) (eOp 6)))) (eAnd (eOr (eTest2 neI (eOp 1) (eOp 2)) (eOr (eTest2 ltI (eOp 5) (eOp 6)) eOrNil)) eAndNil)) (sSeq (sRet (eTup (eCons (eVar 5) (eCons (eVar 6) eNil)))) sNil) sNil) sNil) (nL (List.range' p rest.length)) [some (.sh x0), some (.sh (.tup (iL o1))), some (.sh (.tup (iL o2))), some (.ow true (.list (rowsD A))), some (.ow true (.list (rowsD B))), some (.sh (.int i)), v] = (match dueJ a (eqB o1 o2) i p rest with | some j => .ok (.ret (.sh (pairD (i, j)))) ρ | none => .ok .next [some (.sh x0), some (.sh (.tup (iL o1))), some (.sh (.tup (iL o2))), some (.ow true (.list (rowsD A))), some (.ow true (.list (rowsD B))), some (.sh (.int i)), v']) := by
  intro rest
  induction rest with
  | nil => intro p v _; exact ⟨[], v, rfl⟩
  | cons b r ih =>
    intro p v hd
    obtain ⟨hb, hr⟩ := drop_cons hd
    have e1 := idx_rows ha hA
    have e2 := idx_rows hb hB
    have e3 := eqI_tup a b
    have e4 := neI_tup o1 o2
    show ∃ ρ v', forN _ _ (D.int (p : Nat) :: nL (List.range' (p + 1) r.length)) _ = _
    rw [dueJ]
    by_cases hab : a = b
    · subst hab
      rw [eqB_true.mpr rfl] at e3
      cases hs : eqB o1 o2 with
      | false =>
        rw [hs] at e4
        rw [if_pos ⟨rfl, .inl rfl⟩]
        refine ⟨[some (.sh x0), some (.sh (.tup (iL o1))), some (.sh (.tup (iL o2))), some (.ow true (.list (rowsD A))), some (.ow true (.list (rowsD B))), some (.sh (.int i)), some (.sh (.int p))], v, ?_⟩
        show _ = Res.ok (Fl.ret (T.sh (.tup [.int (i : Nat), .int (p : Nat)]))) _
        have e4 : neI (.tup (iL o1)) (.tup (iL o2)) = some (.sh (.bool true)) := e4
        repeat' (first | (with_reducible first | assumption | exact v_sh | exact tg_sh | exact tg_ow | exact look0 | apply lookS | exact set0 | apply setS | exact g_val | apply g_var | exact len0 | apply lenC | exact nil_of | exact andNil_of | exact orNil_of | exact sNil_of | apply op_of | apply val_of | apply op2_of | apply cons_of | apply test2_of | apply and_of | apply or_of | apply tup_of | apply seq_of | apply if_of | apply ret_of | apply ValK.ok | apply Op2K.ok | apply Op2L.ok | apply ConsL.ok | apply ConsK.ok | apply TupK.ok | apply Test2L.ok | apply Test2K.ok | apply RetK.ok | apply AndK.t | exact AndK.f | exact OrK.t | apply OrK.f | apply SeqK.next | exact SeqK.ret | apply IfK.t | apply IfK.f | apply for_cons | apply bName_of | apply ForL.next | exact ForL.ret) | exact (rfl : listFree _ = true) | exact var_sh rfl | exact (rfl : (_ : Option _) = some _) | decide)
      | true =>
        rw [hs] at e4
        have e4 : neI (.tup (iL o1)) (.tup (iL o2)) = some (.sh (.bool false)) := e4
        by_cases hip : i < p
        · rw [if_pos ⟨rfl, .inr hip⟩]
          have e5 := ltI_t (a := (i : Int)) (b := (p : Int)) (by omega)
          refine ⟨[some (.sh x0), some (.sh (.tup (iL o1))), some (.sh (.tup (iL o2))), some (.ow true (.list (rowsD A))), some (.ow true (.list (rowsD B))), some (.sh (.int i)), some (.sh (.int p))], v, ?_⟩
          show _ = Res.ok (Fl.ret (T.sh (.tup [.int (i : Nat), .int (p : Nat)]))) _
          repeat' (first | (with_reducible first | assumption | exact v_sh | exact tg_sh | exact tg_ow | exact look0 | apply lookS | exact set0 | apply setS | exact g_val | apply g_var | exact len0 | apply lenC | exact nil_of | exact andNil_of | exact orNil_of | exact sNil_of | apply op_of | apply val_of | apply op2_of | apply cons_of | apply test2_of | apply and_of | apply or_of | apply tup_of | apply seq_of | apply if_of | apply ret_of | apply ValK.ok | apply Op2K.ok | apply Op2L.ok | apply ConsL.ok | apply ConsK.ok | apply TupK.ok | apply Test2L.ok | apply Test2K.ok | apply RetK.ok | apply AndK.t | exact AndK.f | exact OrK.t | apply OrK.f | apply SeqK.next | exact SeqK.ret | apply IfK.t | apply IfK.f | apply for_cons | apply bName_of | apply ForL.next | exact ForL.ret) | exact (rfl : listFree _ = true) | exact var_sh rfl | exact (rfl : (_ : Option _) = some _) | decide)
        · rw [if_neg (by rintro ⟨_, h | h⟩; cases h; exact hip h)]
          have e5 := ltI_f (a := (i : Int)) (b := (p : Int)) (by omega)
          obtain ⟨ρ, v', h⟩ := ih (p + 1) (some (.sh (.int p))) hr
          rw [hs] at h
          refine ⟨ρ, v', ?_⟩
          generalize (match dueJ a true i (p + 1) r with | some j => Res.ok (Fl.ret (T.sh (pairD (i, j)))) ρ | none => .ok .next [some (.sh x0), some (.sh (.tup (iL o1))), some (.sh (.tup (iL o2))), some (.ow true (.list (rowsD A))), some (.ow true (.list (rowsD B))), some (.sh (.int i)), v']) = X at h ⊢
          repeat' (first | (with_reducible first | assumption | exact v_sh | exact tg_sh | exact tg_ow | exact look0 | apply lookS | exact set0 | apply setS | exact g_val | apply g_var | exact len0 | apply lenC | exact nil_of | exact andNil_of | exact orNil_of | exact sNil_of | apply op_of | apply val_of | apply op2_of | apply cons_of | apply test2_of | apply and_of | apply or_of | apply tup_of | apply seq_of | apply if_of | apply ret_of | apply ValK.ok | apply Op2K.ok | apply Op2L.ok | apply ConsL.ok | apply ConsK.ok | apply TupK.ok | apply Test2L.ok | apply Test2K.ok | apply RetK.ok | apply AndK.t | exact AndK.f | exact OrK.t | apply OrK.f | apply SeqK.next | exact SeqK.ret | apply IfK.t | apply IfK.f | apply for_cons | apply bName_of | apply ForL.next | exact ForL.ret) | exact (rfl : listFree _ = true) | exact var_sh rfl | exact (rfl : (_ : Option _) = some _) | decide)
    · rw [if_neg (fun h => hab h.1)]
      rw [eqB_false.mpr hab] at e3
      obtain ⟨ρ, v', h⟩ := ih (p + 1) (some (.sh (.int p))) hr
      refine ⟨ρ, v', ?_⟩
      generalize (match dueJ a (eqB o1 o2) i (p + 1) r with | some j => Res.ok (Fl.ret (T.sh (pairD (i, j)))) ρ | none => .ok .next [some (.sh x0), some (.sh (.tup (iL o1))), some (.sh (.tup (iL o2))), some (.ow true (.list (rowsD A))), some (.ow true (.list (rowsD B))), some (.sh (.int i)), v']) = X at h ⊢
      repeat' (first | (with_reducible first | assumption | exact v_sh | exact tg_sh | exact tg_ow | exact look0 | apply lookS | exact set0 | apply setS | exact g_val | apply g_var | exact len0 | apply lenC | exact nil_of | exact andNil_of | exact orNil_of | exact sNil_of | apply op_of | apply val_of | apply op2_of | apply cons_of | apply test2_of | apply and_of | apply or_of | apply tup_of | apply seq_of | apply if_of | apply ret_of | apply ValK.ok | apply Op2K.ok | apply Op2L.ok | apply ConsL.ok | apply ConsK.ok | apply TupK.ok | apply Test2L.ok | apply Test2K.ok | apply RetK.ok | apply AndK.t | exact AndK.f | exact OrK.t | apply OrK.f | apply SeqK.next | exact SeqK.ret | apply IfK.t | apply IfK.f | apply for_cons | apply bName_of | apply ForL.next | exact ForL.ret) | exact (rfl : listFree _ = true) | exact var_sh rfl | exact (rfl : (_ : Option _) = some _) | decide)
theorem items_nL {m : Nat} (h : m ≤ 1000) : itemsD (.range 0 m 1) = some (nL (List.range' 0 m)) := by
  rw [items_rng m (by omega)]
  unfold iL rng nL
  rw [List.map_map, ← List.range_eq_range']; rfl
theorem due_outer (K : Frag) {x0 : D} {o1 o2 : List Int} {A B : List (List Int)} (hA : A.length ≤ 1000) (hB : B.length ≤ 1000) : ∀ (rest : List (List Int)) (p : Nat) (v w : Option T), A.drop p = rest → ∃ ρ v' w',
    forN (bName 5) (sSeq (sFor (eItems (eOpN rangeI (eConsB (eVal (eOpN lenI (eConsB (eOp 4) eNilB))) eNilB))) (bName 6) (sSeq (sIf (eAnd (eTest2 eqI (eVal (eOp2 idxI (eOp 3) (eOp 5))) (eVal (eOp2 idxI (eOp 4) (eOp 6)))) (eAnd (eOr (eTest2 neI (eOp 1) (eOp 2)) (eOr (eTest2 ltI (eOp 5) (eOp 6)) eOrNil)) eAndNil)) (sSeq (sRet (eTup (eCons (eVar 5) (eCons (eVar 6) eNil)))) sNil) sNil) sNil)) sNil) (nL (List.range' p rest.length)) [some (.sh x0), some (.sh (.tup (iL o1))), some (.sh (.tup (iL o2))), some (.ow true (.list (rowsD A))), some (.ow true (.list (rowsD B))), v, w] = (match dueI B (eqB o1 o2) p rest with | some x => .ok (.ret (.sh (pairD x))) ρ | none => .ok .next [some (.sh x0), some (.sh (.tup (iL o1))), some (.sh (.tup (iL o2))), some (.ow true (.list (rowsD A))), some (.ow true (.list (rowsD B))), v', w']) := by
  intro rest
  induction rest with
  | nil => intro p v w _; exact ⟨[], v, w, rfl⟩
  | cons a r ih =>
    intro p v w hd
    obtain ⟨ha, hr⟩ := drop_cons hd
    have e1 := lenI_list (ds := rowsD B) (by rw [rowsD_len]; omega)
    rw [rowsD_len] at e1
    have e2 : rangeI [.int (B.length : Nat)] = some (.sh (.range 0 (B.length : Nat) 1)) := rfl
    have e3 := items_nL hB
    obtain ⟨ρ, v', h⟩ := due_inner K (x0 := x0) (o1 := o1) (o2 := o2) ha hA hB B 0 w rfl
    show ∃ ρ v' w', forN _ _ (D.int (p : Nat) :: nL (List.range' (p + 1) r.length)) _ = _
    rw [dueI]
    cases hj : dueJ a (eqB o1 o2) p 0 B with
    | some j =>
      rw [hj] at h
      simp only at h
      refine ⟨ρ, v, w, ?_⟩
      show _ = Res.ok (Fl.ret (T.sh (pairD (p, j)))) ρ
      repeat' (first | (with_reducible first | assumption | exact v_sh | exact tg_ow | exact look0 | apply lookS | exact set0 | apply setS | exact g_val | apply g_var | exact ga_nil | apply ga_cons | exact nilB_of | exact sNil_of | apply op_of | apply val_of | apply opN_of | apply consB_of | apply items_of | apply seq_of | apply for_of | apply ValK.ok | apply OpNK.ok | apply ConsBL.ok | apply ConsBK.ok | apply ItemsK.ok | apply ForK.ok | apply SeqK.next | exact SeqK.ret | apply for_cons | apply bName_of | apply ForL.next | exact ForL.ret) | exact (rfl : listFree _ = true) | exact (rfl : (_ : Option _) = some _) | decide)
    | none =>
      rw [hj] at h
      simp only at h
      obtain ⟨ρ₂, v₂, w₂, h₂⟩ := ih (p + 1) (some (.sh (.int p))) v' hr
      refine ⟨ρ₂, v₂, w₂, ?_⟩
      show _ = (match dueI B (eqB o1 o2) (p + 1) r with | some x => Res.ok (Fl.ret (T.sh (pairD x))) ρ₂ | none => .ok .next [some (.sh x0), some (.sh (.tup (iL o1))), some (.sh (.tup (iL o2))), some (.ow true (.list (rowsD A))), some (.ow true (.list (rowsD B))), v₂, w₂])
      generalize (match dueI B (eqB o1 o2) (p + 1) r with | some x => Res.ok (Fl.ret (T.sh (pairD x))) ρ₂ | none => .ok .next [some (.sh x0), some (.sh (.tup (iL o1))), some (.sh (.tup (iL o2))), some (.ow true (.list (rowsD A))), some (.ow true (.list (rowsD B))), v₂, w₂]) = X at h₂ ⊢
      repeat' (first | (with_reducible first | assumption | exact v_sh | exact tg_ow | exact look0 | apply lookS | exact set0 | apply setS | exact g_val | apply g_var | exact ga_nil | apply ga_cons | exact nilB_of | exact sNil_of | apply op_of | apply val_of | apply opN_of | apply consB_of | apply items_of | apply seq_of | apply for_of | apply ValK.ok | apply OpNK.ok | apply ConsBL.ok | apply ConsBK.ok | apply ItemsK.ok | apply ForK.ok | apply SeqK.next | exact SeqK.ret | apply for_cons | apply bName_of | apply ForL.next | exact ForL.ret) | exact (rfl : listFree _ = true) | exact (rfl : (_ : Option _) = some _) | decide)
noncomputable def due (chs : List (List Nat)) (a b : List Int) : Option (Nat × Nat) := dueI (leadL b chs) (eqB a b) 0 (leadL a chs)
theorem F_law_due_ok (K : Frag) {n : Nat} {chs : List (List Nat)} {a b : List Int} (hc : Chs n chs) (ha : a.length = n) (hb : b.length = n) : F_law_due K [.list (chD chs), .tup (iL a), .tup (iL b)] = .ok (.sh (resD (due chs a b))) := by
  have l1 := F_law_lead_ok K ha hc
  have l2 := F_law_lead_ok K hb hc
  have hA : (leadL a chs).length ≤ 1000 := by rw [leadL_len]; have := hc.len; omega
  have hB : (leadL b chs).length ≤ 1000 := by rw [leadL_len]; have := hc.len; omega
  have e1 := lenI_list (ds := rowsD (leadL a chs)) (by rw [rowsD_len]; omega)
  rw [rowsD_len] at e1
  have e2 : rangeI [.int ((leadL a chs).length : Nat)] = some (.sh (.range 0 ((leadL a chs).length : Nat) 1)) := rfl
  have e3 := items_nL hA
  obtain ⟨ρ, v, w, h⟩ := due_outer K (x0 := .list (chD chs)) (o1 := a) (o2 := b) hA hB (leadL a chs) 0 none none rfl
  unfold F_law_due f_law_due due
  cases hm : dueI (leadL b chs) (eqB a b) 0 (leadL a chs) with
  | some x =>
    rw [hm] at h
    simp only at h
    show _ = FOut.ok (.sh (pairD x))
    refine' run_of [some (.sh (.list (chD chs))), some (.sh (.tup (iL a))), some (.sh (.tup (iL b))), none, none, none, none] rfl rfl ?_ fin_ret
    repeat' (first | (with_reducible first | assumption | exact v_sh | exact tg_sh | exact tg_ow | exact look0 | apply lookS | exact set0 | apply setS | exact g_val | apply g_var | exact ga_nil | apply ga_cons | exact const_of | exact nilB_of | apply op_of | apply val_of | apply opN_of | apply consB_of | apply call_of | apply items_of | apply seq_of | apply ret_of | apply asg_of | apply for_of | apply ValK.ok | apply OpNK.ok | apply CallK.ok | apply ConsBL.ok | apply ConsBK.ok | apply ItemsK.ok | apply RetK.ok | apply AsgK.ok | apply ForK.ok | apply SeqK.next | exact SeqK.ret) | exact ce_ok rfl | exact (rfl : listFree _ = true) | exact (rfl : (_ : Option _) = some _) | decide)
  | none =>
    rw [hm] at h
    simp only at h
    show _ = FOut.ok (.sh .none)
    refine' run_of [some (.sh (.list (chD chs))), some (.sh (.tup (iL a))), some (.sh (.tup (iL b))), none, none, none, none] rfl rfl ?_ fin_ret
    repeat' (first | (with_reducible first | assumption | exact v_sh | exact tg_sh | exact tg_ow | exact look0 | apply lookS | exact set0 | apply setS | exact g_val | apply g_var | exact ga_nil | apply ga_cons | exact const_of | exact nilB_of | apply op_of | apply val_of | apply opN_of | apply consB_of | apply call_of | apply items_of | apply seq_of | apply ret_of | apply asg_of | apply for_of | apply ValK.ok | apply OpNK.ok | apply CallK.ok | apply ConsBL.ok | apply ConsBK.ok | apply ItemsK.ok | apply RetK.ok | apply AsgK.ok | apply ForK.ok | apply SeqK.next | exact SeqK.ret) | exact ce_ok rfl | exact (rfl : listFree _ = true) | exact (rfl : (_ : Option _) = some _) | decide)
end Mine
end

section
set_option Elab.async false
set_option maxRecDepth 100000
set_option maxHeartbeats 4000000
set_option linter.unusedSimpArgs false
set_option linter.unusedVariables false
namespace Mine
open PySem PySem.W
noncomputable def tp (a : List Int) : PyData := .tuple (a.map .int)
theorem toPy_tp (a : List Int) : toPy (.tup (iL a)) = some (tp a) := pyTup (toPys_iL a)
theorem toPys_rows : ∀ l : List (List Int), toPys (rowsD l) = some (l.map tp)
  | [] => rfl
  | a :: l => by
    show toPys (D.tup (iL a) :: rowsD l) = _
    exact toPys_cons (toPy_tp a) (toPys_rows l)
theorem eqv_tp (a b : List Int) : PyData.eqv (tp a) (tp b) = decide (a = b) := eqvAll_ints a b
theorem shaped_tp (a : List Int) : SeqAt.shaped (tp a) = true := shaped_tup a
theorem canLay_rows : ∀ l : List (List Int), PyData.canLayAll0 (l.map tp) = true
  | [] => by simp [PyData.canLayAll0]
  | a :: l => by
    have := SeqAt.canLay_of_shaped (shaped_tp a)
    simp [PyData.canLayAll0, this, canLay_rows l]
theorem depth_rows : ∀ l : List (List Int), PyData.depthAll (l.map tp) ≤ 2
  | [] => by simp [PyData.depthAll]
  | a :: l => by
    have h1 := depth_rows l
    have h2 := depth_ints a
    simp [PyData.depthAll, PyData.depth, tp]; omega
theorem shaped_rows (l : List (List Int)) : SeqAt.shaped (.list (l.map tp)) = true := by
  have := depth_rows l
  unfold SeqAt.shaped
  simp [PyData.canLay0, canLay_rows, PyData.depth]; omega
theorem in_rows (a : List Int) (l : List (List Int)) : inI (.tup (iL a)) (.list (rowsD l)) = some (.sh (.bool (decide (a ∈ l)))) := by
  unfold inI hasD
  simp only [toPys_rows, toPy_tp, shaped_rows, shaped_tp, Bool.and_self, if_true, Option.map_some]
  congr 3
  rw [List.any_map]
  apply Bool.eq_iff_iff.mpr
  simp only [List.any_eq_true, Function.comp, eqv_tp, decide_eq_true_eq]
  exact ⟨fun ⟨x, h1, h2⟩ => h2 ▸ h1, fun h => ⟨a, h, rfl⟩⟩
theorem idx_due (a : List Int) (i : Nat) : ∀ (l : List (List Int)) (q : Nat), (idxFrom (tp a) (i + 1 - q) (l.map tp)).map (· + q) = dueJ a true i q l
  | [], q => by rw [List.map_nil, idxFrom, dueJ]; rfl
  | b :: l, q => by
    have ih := idx_due a i l (q + 1)
    rw [List.map_cons, dueJ, ← ih]
    by_cases hq : i < q
    · rw [show i + 1 - q = 0 by omega, show i + 1 - (q + 1) = 0 by omega, idxFrom]
      by_cases hab : a = b
      · subst hab
        rw [eqv_tp, if_pos (by simp), if_pos ⟨rfl, .inr hq⟩]
        simp
      · rw [eqv_tp, if_neg (by simp; exact fun h => hab h.symm), if_neg (fun h => hab h.1), Option.map_map]
        congr 1; funext x; simp only [Function.comp]; omega
    · rw [show i + 1 - q = (i + 1 - (q + 1)) + 1 by omega, idxFrom, if_neg (by rintro ⟨_, h | h⟩; cases h; exact hq h), Option.map_map]
      congr 1; funext x; simp only [Function.comp]; omega
theorem due_some (a : List Int) (i : Nat) : ∀ (l : List (List Int)) (q : Nat), (dueJ a true i q l).isSome = decide (a ∈ l.drop (i + 1 - q))
  | [], q => by rw [dueJ]; simp
  | b :: l, q => by
    have ih := due_some a i l (q + 1)
    rw [dueJ]
    by_cases hq : i < q
    · rw [show i + 1 - q = 0 by omega, List.drop_zero]
      rw [show i + 1 - (q + 1) = 0 by omega, List.drop_zero] at ih
      by_cases hab : a = b
      · subst hab; rw [if_pos ⟨rfl, .inr hq⟩]; simp
      · rw [if_neg (fun h => hab h.1), ih]; simp [hab]
    · rw [if_neg (by rintro ⟨_, h | h⟩; cases h; exact hq h), ih, show i + 1 - q = (i + 1 - (q + 1)) + 1 by omega, List.drop_succ_cons]
theorem lidx_due {a : List Int} {A : List (List Int)} {p j : Nat} (h : dueJ a true p 0 A = some j) (hA : A.length ≤ 1000) (hp : p ≤ 1000) : lidxI [.list (rowsD A), .tup (iL a), .int ((p : Int) + 1)] = some (.sh (.int j)) := by
  have e := idx_due a p A 0
  rw [h] at e
  unfold lidxI
  simp only [toPys_rows, toPy_tp, shaped_rows, shaped_tp, Bool.and_self]
  rw [if_pos (by simp; omega), show ((p : Int) + 1).toNat = p + 1 - 0 by omega]
  obtain ⟨x, h1, h2⟩ := Option.map_eq_some_iff.mp e
  rw [h1]
  simp only [Nat.add_zero] at h2
  subst h2; rfl
theorem rows_notInt {A : List (List Int)} (h : A ≠ []) : (rowsD A).all isIntD = false := by
  cases A with
  | nil => exact absurd rfl h
  | cons a l => rfl
theorem self_loop (K : Frag) {A : List (List Int)} (hA : A.length ≤ 1000) : ∀ (rest : List (List Int)) (p : Nat) (v1 v2 : Option T), A.drop p = rest → ∃ ρ,
    forN (bTuple [1, 2]) (sSeq (sIf (eTest2 inI (eOp 2) (eVal (eSlice (eOp 0) (ePart (eVal (eOp2 addD (eOp 1) (eVal (eConst (.int 1)))))) eNoPart))) (sSeq (sRet (eTup (eCons (eVar 1) (eCons (eMethL lidxI (eOp 0) (eConsB (eOp 2) (eConsB (eVal (eOp2 addD (eOp 1) (eVal (eConst (.int 1))))) eNilB))) eNil)))) sNil) sNil) sNil) (enF p rest) [some (.sh (.list (rowsD A))), v1, v2] = (match dueI A true p rest with | some x => .ok (.ret (.sh (pairD x))) ρ | none => .ok .next ρ) := by
  intro rest
  induction rest with
  | nil => intro p v1 v2 _; exact ⟨_, rfl⟩
  | cons a r ih =>
    intro p v1 v2 hd
    obtain ⟨ha, hr⟩ := drop_cons hd
    have hp : p < A.length := (List.getElem?_eq_some_iff.mp ha).1
    rw [enF_cons]
    have e1 : sliceI (.list (rowsD A)) (some ((p : Int) + 1)) none = some (.ow true (.list (rowsD (A.drop (p + 1))))) := by
      rw [sliceI_l (by rw [rowsD_len]; omega), show ((p : Int) + 1) = ((p + 1 : Nat) : Int) by omega, cut_from (by rw [rowsD_len]; omega)]
      unfold rowsD; rw [List.map_drop]
    have e2 := in_rows a (A.drop (p + 1))
    have e3 := due_some a p A 0
    rw [Nat.sub_zero] at e3
    have e4 := rows_notInt (A := A) (by rintro rfl; simp at hp)
    rw [dueI]
    cases hj : dueJ a true p 0 A with
    | some j =>
      rw [hj] at e3
      rw [← e3] at e2
      have e2 : inI (.tup (iL a)) (.list (rowsD (A.drop (p + 1)))) = some (.sh (.bool true)) := e2
      have e5 := lidx_due hj hA (by omega)
      refine ⟨[some (.sh (.list (rowsD A))), some (.sh (.int p)), some (.sh (.tup (iL a)))], ?_⟩
      show _ = Res.ok (Fl.ret (T.sh (.tup [.int (p : Nat), .int (j : Nat)]))) _
      repeat' (first | (with_reducible first | assumption | exact v_sh | exact v_ow | exact tg_sh | exact look0 | apply lookS | exact set0 | apply setS | exact g_val | apply g_var | exact ga_nil | apply ga_cons | exact len0 | apply lenC | exact const_of | exact nilB_of | exact nil_of | exact noPart_of | exact sNil_of | apply op_of | apply val_of | apply consB_of | apply op2_of | apply cons_of | apply test2_of | apply tup_of | apply part_of | apply slice_of | apply seq_of | apply if_of | apply ret_of | apply methL_of | apply bTuple_of | apply ValK.ok | apply Op2K.ok | apply Op2L.ok | apply ConsBL.ok | apply ConsBK.ok | apply ConsL.ok | apply ConsK.ok | apply TupK.ok | apply Test2L.ok | apply Test2K.ok | apply RetK.ok | apply SeqK.next | exact SeqK.ret | apply IfK.t | apply IfK.f | apply for_cons | apply ForL.next | exact ForL.ret) | exact (rfl : listFree _ = true) | exact var_sh rfl | exact (rfl : (_ : Option _) = some _) | decide)
    | none =>
      rw [hj] at e3
      rw [← e3] at e2
      have e2 : inI (.tup (iL a)) (.list (rowsD (A.drop (p + 1)))) = some (.sh (.bool false)) := e2
      obtain ⟨ρ, h⟩ := ih (p + 1) (some (.sh (.int p))) (some (.sh (.tup (iL a)))) hr
      refine ⟨ρ, ?_⟩
      show _ = (match dueI A true (p + 1) r with | some x => Res.ok (Fl.ret (T.sh (pairD x))) ρ | none => .ok .next ρ)
      generalize (match dueI A true (p + 1) r with | some x => Res.ok (Fl.ret (T.sh (pairD x))) ρ | none => .ok .next ρ) = X at h ⊢
      repeat' (first | (with_reducible first | assumption | exact v_sh | exact v_ow | exact tg_sh | exact look0 | apply lookS | exact set0 | apply setS | exact g_val | apply g_var | exact ga_nil | apply ga_cons | exact len0 | apply lenC | exact const_of | exact nilB_of | exact nil_of | exact noPart_of | exact sNil_of | apply op_of | apply val_of | apply consB_of | apply op2_of | apply cons_of | apply test2_of | apply tup_of | apply part_of | apply slice_of | apply seq_of | apply if_of | apply ret_of | apply methL_of | apply bTuple_of | apply ValK.ok | apply Op2K.ok | apply Op2L.ok | apply ConsBL.ok | apply ConsBK.ok | apply ConsL.ok | apply ConsK.ok | apply TupK.ok | apply Test2L.ok | apply Test2K.ok | apply RetK.ok | apply SeqK.next | exact SeqK.ret | apply IfK.t | apply IfK.f | apply for_cons | apply ForL.next | exact ForL.ret) | exact (rfl : listFree _ = true) | exact var_sh rfl | exact (rfl : (_ : Option _) = some _) | decide)
theorem F_met_itself_ok (K : Frag) (A : List (List Int)) (hA : A.length ≤ 1000) : F_met_itself K [.list (rowsD A)] = .ok (.sh (resD (dueI A true 0 A))) := by
  obtain ⟨ρ, h⟩ := self_loop K hA A 0 none none rfl
  rw [← enumL_rows] at h
  unfold F_met_itself f_met_itself
  cases hm : dueI A true 0 A with
  | some x =>
    rw [hm] at h
    simp only at h
    show _ = FOut.ok (.sh (pairD x))
    refine' run_of [some (.sh (.list (rowsD A))), none, none] rfl rfl ?_ fin_ret
    repeat' (first | (with_reducible first | assumption | exact v_sh | exact const_of | apply enum_of | apply seq_of | apply ret_of | apply for_of | apply RetK.ok | apply ForK.ok | apply EnumK.list v_sh | apply EnumK.list v_ow | apply SeqK.next | exact SeqK.ret) | exact (rfl : listFree _ = true) | exact var_sh rfl | exact (rfl : (_ : Option _) = some _) | decide)
  | none =>
    rw [hm] at h
    simp only at h
    show _ = FOut.ok (.sh .none)
    refine' run_of [some (.sh (.list (rowsD A))), none, none] rfl rfl ?_ fin_ret
    repeat' (first | (with_reducible first | assumption | exact v_sh | exact const_of | apply enum_of | apply seq_of | apply ret_of | apply for_of | apply RetK.ok | apply ForK.ok | apply EnumK.list v_sh | apply EnumK.list v_ow | apply SeqK.next | exact SeqK.ret) | exact (rfl : listFree _ = true) | exact var_sh rfl | exact (rfl : (_ : Option _) = some _) | decide)
theorem dueJ_key (a : List Int) (i : Nat) : ∀ (l : List (List Int)) (q : Nat), dueJ a false i q l = (keyAt a l).map (· + q)
  | [], q => rfl
  | b :: l, q => by
    rw [dueJ, keyAt]
    by_cases hab : a = b
    · subst hab; rw [if_pos ⟨rfl, .inl rfl⟩, if_pos rfl]; simp
    · rw [if_neg (fun h => hab h.1), if_neg (fun h => hab h.symm), dueJ_key a i l (q + 1), Option.map_map]
      congr 1; funext x; simp only [Function.comp]; omega
theorem metI_due (B : List (List Int)) : ∀ (l : List (List Int)) (p : Nat), metI B p l = dueI B false p l
  | [], p => rfl
  | a :: l, p => by
    rw [metI, dueI, dueJ_key]
    cases hk : keyAt a B with
    | some j => rfl
    | none => exact metI_due B l (p + 1)
theorem lf_res (x : Option (Nat × Nat)) : listFree (resD x) = true := by cases x <;> rfl
theorem F_meets_ok (K : Frag) {n : Nat} {chs ws : List (List Nat)} {a b : List Int} (hc : Chs n chs) (ra : Row n a) (rb : Row n b) : F_meets K [mth n chs ws, .tup (iL a), .tup (iL b)] = .ok (.sh (resD (due chs a b))) := by
  have l1 := F_lead_ok K (ws := ws) ra hc
  have l2 := F_lead_ok K (ws := ws) rb hc
  have hA : (leadL a chs).length ≤ 1000 := by rw [leadL_len]; have := hc.len; omega
  have hB : (leadL b chs).length ≤ 1000 := by rw [leadL_len]; have := hc.len; omega
  have e1 := F_met_itself_ok K (leadL a chs) hA
  have e2 := F_met_in_ok K (leadL a chs) (leadL b chs) hB
  rw [metI_due] at e2
  have e3 := eqI_tup a b
  unfold F_meets f_meets due
  by_cases hab : a = b
  · subst hab
    rw [eqB_true.mpr rfl] at e3 ⊢
    have lf := lf_res (dueI (leadL a chs) true 0 (leadL a chs))
    generalize resD (dueI (leadL a chs) true 0 (leadL a chs)) = X at *
    refine' run_of [some (.sh (mth n chs ws)), some (.sh (.tup (iL a))), some (.sh (.tup (iL a))), none, none] rfl rfl ?_ fin_ret
    unfold mth at *
    repeat' (first | (with_reducible first | assumption | exact v_sh | exact tg_sh | exact tg_ow | exact look0 | apply lookS | exact set0 | apply setS | apply g_var | exact ga_nil | apply ga_cons | exact nilB_of | exact sNil_of | apply op_of | apply consB_of | apply call_of | apply test2_of | apply seq_of | apply if_of | apply ret_of | apply asg_of | apply mtd_of | apply CallK.ok | apply ConsBL.ok | apply ConsBK.ok | apply Test2L.ok | apply Test2K.ok | apply RetK.ok | apply AsgK.ok | apply SeqK.next | exact SeqK.ret | apply IfK.t | apply IfK.f | apply MtdK.ok) | exact ce_ok rfl | apply ce_free rfl v_sh | apply ce_free rfl v_ow | exact (rfl : listFree _ = true) | exact (rfl : (_ : Option _) = some _) | decide)
  · rw [eqB_false.mpr hab] at e3 ⊢
    have lf := lf_res (dueI (leadL b chs) false 0 (leadL a chs))
    generalize resD (dueI (leadL b chs) false 0 (leadL a chs)) = X at *
    refine' run_of [some (.sh (mth n chs ws)), some (.sh (.tup (iL a))), some (.sh (.tup (iL b))), none, none] rfl rfl ?_ fin_ret
    unfold mth at *
    repeat' (first | (with_reducible first | assumption | exact v_sh | exact tg_sh | exact tg_ow | exact look0 | apply lookS | exact set0 | apply setS | apply g_var | exact ga_nil | apply ga_cons | exact nilB_of | exact sNil_of | apply op_of | apply consB_of | apply call_of | apply test2_of | apply seq_of | apply if_of | apply ret_of | apply asg_of | apply mtd_of | apply CallK.ok | apply ConsBL.ok | apply ConsBK.ok | apply Test2L.ok | apply Test2K.ok | apply RetK.ok | apply AsgK.ok | apply SeqK.next | exact SeqK.ret | apply IfK.t | apply IfK.f | apply MtdK.ok) | exact ce_ok rfl | apply ce_free rfl v_sh | apply ce_free rfl v_ow | exact (rfl : listFree _ = true) | exact (rfl : (_ : Option _) = some _) | decide)
theorem F_meets_bad1 (K : Frag) {n : Nat} {chs ws : List (List Nat)} {d e : D} (h : F_Method_lead K [mth n chs ws, d] = .exc 56) : F_meets K [mth n chs ws, d, e] = .exc 56 := by
  unfold F_meets f_meets
  refine' run_of [some (.sh (mth n chs ws)), some (.sh d), some (.sh e), none, none] rfl rfl ?_ fin_exc
  unfold mth at *
  repeat' (first | (with_reducible first | assumption | exact tg_sh | exact look0 | apply lookS | apply g_var | exact ga_nil | apply ga_cons | exact ce_exc | exact nilB_of | apply op_of | apply consB_of | apply seq_of | apply asg_of | apply mtd_of | apply ConsBL.ok | apply ConsBK.ok | exact AsgK.exc | exact SeqK.exc | apply MtdK.ok) | exact (rfl : listFree _ = true) | exact (rfl : (_ : Option _) = some _) | decide)
theorem F_meets_bad2 (K : Frag) {n : Nat} {chs ws : List (List Nat)} {a : List Int} {e : D} (hc : Chs n chs) (ra : Row n a) (h : F_Method_lead K [mth n chs ws, e] = .exc 56) : F_meets K [mth n chs ws, .tup (iL a), e] = .exc 56 := by
  have l1 := F_lead_ok K (ws := ws) ra hc
  unfold F_meets f_meets
  refine' run_of [some (.sh (mth n chs ws)), some (.sh (.tup (iL a))), some (.sh e), none, none] rfl rfl ?_ fin_exc
  unfold mth at *
  repeat' (first | (with_reducible first | assumption | exact tg_sh | exact look0 | apply lookS | exact set0 | apply setS | apply g_var | exact ga_nil | apply ga_cons | exact ce_exc | exact nilB_of | apply op_of | apply consB_of | apply seq_of | apply asg_of | apply mtd_of | apply ConsBL.ok | apply ConsBK.ok | apply AsgK.ok | exact AsgK.exc | apply SeqK.next | exact SeqK.exc | apply MtdK.ok) | exact ce_ok rfl | exact (rfl : listFree _ = true) | exact (rfl : (_ : Option _) = some _) | decide)
end Mine
end

section
set_option Elab.async false
set_option maxRecDepth 100000
set_option maxHeartbeats 4000000
set_option linter.unusedSimpArgs false
set_option linter.unusedVariables false
namespace Mine
open PySem PySem.W
theorem getD_map (f : Int → Int) {a : List Int} {p : Nat} (h : p < a.length) : (a.map f).getD p 0 = f (a.getD p 0) := by
  rw [List.getD_eq_getElem?_getD, List.getD_eq_getElem?_getD, List.getElem?_map, List.getElem?_eq_getElem h]; rfl
theorem swap_map (f : Int → Int) {a : List Int} {p : Nat} (h : p + 1 < a.length) : swap (a.map f) p = (swap a p).map f := by
  unfold swap
  rw [getD_map f h, getD_map f (by omega), List.map_set, List.map_set]
theorem rung_map (f : Int → Int) {n : Nat} : ∀ {cs : List Nat} {lo : Nat} {a : List Int}, a.length = n → chOk n lo cs = true → rung (a.map f) cs = (rung a cs).map f
  | [], _, _, _, _ => rfl
  | p :: r, lo, a, ha, h => by
    rw [chOk] at h
    simp only [Bool.and_eq_true, decide_eq_true_eq] at h
    show rung (swap (a.map f) p) r = (rung (swap a p) r).map f
    rw [swap_map f (by omega)]
    exact rung_map f (by rw [swap_len]; exact ha) h.2
theorem lead_map (f : Int → Int) {n : Nat} : ∀ {chs : List (List Nat)} {a : List Int}, (∀ c ∈ chs, Change n c) → a.length = n → leadL (a.map f) chs = (leadL a chs).map (List.map f)
  | [], a, _, _ => rfl
  | c :: cs, a, h, ha => by
    rw [leadL, leadL, List.map_cons, rung_map f ha (h c (.head _)).ok, lead_map f (fun x hx => h x (.tail _ hx)) (by rw [rung_len]; exact ha)]
theorem lead_rows {n : Nat} : ∀ {chs : List (List Nat)} {a : List Int}, (∀ c ∈ chs, Change n c) → Row n a → ∀ x ∈ leadL a chs, Row n x
  | [], a, _, ra, x, hx => by rw [leadL] at hx; cases hx with | head => exact ra | tail _ h => cases h
  | c :: cs, a, h, ra, x, hx => by
    rw [leadL] at hx
    rcases List.mem_cons.mp hx with rfl | hx
    · exact ra
    · exact lead_rows (fun y hy => h y (.tail _ hy)) (ra.rung (h c (.head _)).ok) x hx
theorem map_inj_on {f : Int → Int} {n : Nat} (hf : ∀ x y : Int, 0 ≤ x → x < n → 0 ≤ y → y < n → f x = f y → x = y) : ∀ {a b : List Int}, (∀ x ∈ a, 0 ≤ x ∧ x < n) → (∀ x ∈ b, 0 ≤ x ∧ x < n) → a.map f = b.map f → a = b
  | [], [], _, _, _ => rfl
  | [], y :: b, _, _, h => by cases h
  | x :: a, [], _, _, h => by cases h
  | x :: a, y :: b, ha, hb, h => by
    simp only [List.map_cons, List.cons.injEq] at h
    have h1 := ha x (.head _)
    have h2 := hb y (.head _)
    rw [hf x y h1.1 h1.2 h2.1 h2.2 h.1, map_inj_on hf (fun z hz => ha z (.tail _ hz)) (fun z hz => hb z (.tail _ hz)) h.2]
theorem dueJ_map {g : List Int → List Int} {a : List Int} {same : Bool} {i : Nat} : ∀ {l : List (List Int)} {p : Nat}, (∀ b ∈ l, g a = g b ↔ a = b) → dueJ (g a) same i p (l.map g) = dueJ a same i p l
  | [], _, _ => rfl
  | b :: l, p, h => by
    rw [List.map_cons, dueJ, dueJ, dueJ_map fun x hx => h x (.tail _ hx)]
    have := h b (.head _)
    by_cases hab : a = b
    · subst hab; simp
    · rw [if_neg (fun q => hab (this.mp q.1)), if_neg (fun q => hab q.1)]
theorem dueI_map {g : List Int → List Int} {B : List (List Int)} {same : Bool} : ∀ {l : List (List Int)} {p : Nat}, (∀ a ∈ l, ∀ b ∈ B, g a = g b ↔ a = b) → dueI (B.map g) same p (l.map g) = dueI B same p l
  | [], _, _ => rfl
  | a :: l, p, h => by
    rw [List.map_cons, dueI, dueI, dueJ_map fun b hb => h a (.head _) b hb, dueI_map fun x hx => h x (.tail _ hx)]
theorem at'_inj {n : Nat} {a : List Int} (r : Row n a) : ∀ x y : Int, 0 ≤ x → x < n → 0 ≤ y → y < n → at' a x = at' a y → x = y := fun x y h1 h2 h3 h4 h => by
  have := r.inj (p := x.toNat) (q := y.toNat) (by omega) (by omega) h
  omega
theorem Row.vals {n : Nat} {a : List Int} (r : Row n a) : ∀ x ∈ a, 0 ≤ x ∧ x < n := fun x hx => r.mem.mp hx
theorem comp_rng {n : Nat} {a : List Int} (r : Row n a) : comp a (rng n) = a := by
  unfold comp
  apply List.ext_getElem?
  intro i
  rw [List.getElem?_map]
  by_cases hi : i < n
  · unfold rng
    rw [List.getElem?_map, List.getElem?_range hi]
    show some (at' a (i : Int)) = a[i]?
    unfold at'
    have : i < a.length := by rw [r.len]; exact hi
    rw [Int.toNat_natCast, List.getD_eq_getElem?_getD, List.getElem?_eq_getElem this]; rfl
  · rw [List.getElem?_eq_none (by rw [rng_length]; omega), List.getElem?_eq_none (by rw [r.len]; omega)]; rfl
theorem Row.comp {n : Nat} {a b : List Int} (ra : Row n a) (rb : Row n b) : Row n (comp a b) := by
  refine ⟨?_, ra.h3, ra.h12⟩
  have h := rb.perm.map (at' a)
  have : (rng n).map (at' a) = a := comp_rng ra
  rw [this] at h
  exact h.trans ra.perm
theorem row_rng {n : Nat} (h3 : 3 ≤ n) (h12 : n ≤ 12) : Row n (rng n) := ⟨.refl _, h3, h12⟩
theorem comp_turn {n : Nat} {a b : List Int} (ra : Row n a) (rb : Row n b) : comp a (comp (turn n a) b) = b := by
  have h := (turn_inv ra).comp1 ra
  unfold comp at *
  rw [List.map_map]
  have key : ∀ x ∈ b, (at' a ∘ at' (turn n a)) x = x := fun x hx => by
    have hx' := rb.vals x hx
    have hl := (turn_inv ra).len
    have e : ((turn n a).map (at' a))[x.toNat]? = (rng n)[x.toNat]? := by rw [h]
    have hx2 : x.toNat < (turn n a).length := by rw [hl]; omega
    rw [List.getElem?_map, List.getElem?_eq_getElem hx2] at e
    unfold rng at e
    rw [List.getElem?_map, List.getElem?_range (by omega)] at e
    simp only [Option.map_some, Option.some.injEq] at e
    show at' a (at' (turn n a) x) = x
    have : at' (turn n a) x = (turn n a)[x.toNat] := by unfold at'; rw [List.getD_eq_getElem?_getD, List.getElem?_eq_getElem hx2]; rfl
    rw [this, e]; omega
  rw [List.map_congr_left key, List.map_id']
theorem due_turned {n : Nat} {chs : List (List Nat)} {a b : List Int} (hc : Chs n chs) (ra : Row n a) (rb : Row n b) : due chs (rng n) (comp (turn n a) b) = due chs a b := by
  have rt : Row n (comp (turn n a) b) := ((turn_inv ra).row ra).comp rb
  have r1 := row_rng hc.h3 hc.h12
  have e1 : (rng n).map (at' a) = a := comp_rng ra
  have e2 : (comp (turn n a) b).map (at' a) = b := comp_turn ra rb
  have iff' : ∀ x y : List Int, Row n x → Row n y → (x.map (at' a) = y.map (at' a) ↔ x = y) := fun x y rx ry => ⟨fun h => map_inj_on (at'_inj ra) rx.vals ry.vals h, fun h => by rw [h]⟩
  have key : ∀ x y, Row n x → Row n y → due chs (x.map (at' a)) (y.map (at' a)) = due chs x y := fun x y rx ry => by
    unfold due
    rw [lead_map _ hc.all rx.len, lead_map _ hc.all ry.len]
    have : eqB (x.map (at' a)) (y.map (at' a)) = eqB x y := by
      unfold eqB
      exact decide_eq_decide.mpr (iff' x y rx ry)
    rw [this]
    exact dueI_map fun u hu v hv => iff' u v (lead_rows hc.all rx u hu) (lead_rows hc.all ry v hv)
  have := key (rng n) (comp (turn n a) b) r1 rt
  rw [e1, e2] at this
  exact this.symm
theorem isInt_int (K : Frag) (i : Int) : isInstI K [.int i, .glob (.type "int")] = some (.sh (.bool true)) := by kernel_rfl
theorem isBool_int (K : Frag) (i : Int) : isInstI K [.int i, .glob (.type "bool")] = some (.sh (.bool false)) := by kernel_rfl
theorem F_law_same_ok (K : Frag) (x : Option (Nat × Nat)) : F_law_same K [resD x, resD x] = .ok (.sh (.bool true)) := by
  unfold F_law_same f_law_same
  cases x with
  | none =>
    have e1 : isI .none .none = some (.sh (.bool true)) := rfl
    refine' run_of [some (.sh .none), some (.sh .none)] rfl rfl ?_ fin_ret
    repeat' (first | (with_reducible first | assumption | exact v_sh | exact v_ow | exact tg_sh | exact look0 | apply lookS | exact g_val | apply g_var | exact ga_nil | apply ga_cons | exact ci_nil | apply ci_none | exact const_of | exact nilB_of | exact orNil_of | exact sNil_of | apply op_of | apply val_of | apply opN_of | apply consB_of | apply op2_of | apply truth_of | apply test2_of | apply not_of | apply or_of | apply bo_of | apply op1_of | apply items_of | apply compI_of | apply seq_of | apply if_of | apply ret_of | apply ValK.ok | apply Op1K.ok | apply Op2K.ok | apply Op2L.ok | apply OpNK.ok | apply ConsBL.ok | apply ConsBK.ok | apply TruthK.ok | apply Test2L.ok | apply Test2K.ok | apply BoK.ok | apply ItemsK.ok | apply RetK.ok | exact NotK.t | exact OrK.t | apply OrK.f | apply BoL.andT | apply SeqK.next | exact SeqK.ret | apply IfK.t | apply IfK.f) | exact (rfl : listFree _ = true) | exact var_sh rfl | exact (rfl : (_ : Option _) = some _) | decide)
  | some x =>
    have e1 : isI (pairD x) .none = some (.sh (.bool false)) := rfl
    have e2 : isInstI K [pairD x, .glob (.type "tuple")] = some (.sh (.bool true)) := isTuple_eq K (pairD x) rfl
    have e3 : neI (pairD x) (pairD x) = some (.sh (.bool false)) := by
      have := neI_tup [(x.1 : Int), (x.2 : Int)] [(x.1 : Int), (x.2 : Int)]
      rw [eqB_true.mpr rfl] at this; exact this
    have e4 : itemsD (pairD x) = some [.int (x.1 : Nat), .int (x.2 : Nat)] := rfl
    have i1 := isInt_int K (x.1 : Nat)
    have i2 := isInt_int K (x.2 : Nat)
    have j1 := isBool_int K (x.1 : Nat)
    have j2 := isBool_int K (x.2 : Nat)
    have e5 : compN (bName 1) eAll (eBo .And (eVal (eOpN (isInstI K) (eConsB (eOp 1) (eConsB (eVal (eConst (.glob (.type "int")))) eNilB)))) (eOp1 notI (eVal (eOpN (isInstI K) (eConsB (eOp 1) (eConsB (eVal (eConst (.glob (.type "bool")))) eNilB)))))) [none, none] [.int (x.1 : Nat), .int (x.2 : Nat)] [] = some [.bool true, .bool true] := by
      have := compN_map (b := bName 1) (f := (eBo .And (eVal (eOpN (isInstI K) (eConsB (eOp 1) (eConsB (eVal (eConst (.glob (.type "int")))) eNilB)))) (eOp1 notI (eVal (eOpN (isInstI K) (eConsB (eOp 1) (eConsB (eVal (eConst (.glob (.type "bool")))) eNilB))))))) (ρ₀ := [none, none]) (g := fun _ => .bool true) [.int (x.1 : Nat), .int (x.2 : Nat)] (fun d hd => ?_) (by simp)
      · exact this
      · have : ∃ v : Int, d = .int v := by
          rcases List.mem_cons.mp hd with rfl | hd
          · exact ⟨_, rfl⟩
          · rcases List.mem_cons.mp hd with rfl | hd
            · exact ⟨_, rfl⟩
            · cases hd
        obtain ⟨v, rfl⟩ := this
        have i1 := isInt_int K v
        have j1 := isBool_int K v
        have k1 : notI (.bool false) = some (.sh (.bool true)) := rfl
        refine ⟨[none, some (.sh (.int v))], .sh (.bool true), [none, some (.sh (.int v))], rfl, ?_, rfl⟩
        repeat' (first | (with_reducible first | assumption | exact v_sh | exact v_ow | exact tg_sh | exact look0 | apply lookS | exact g_val | apply g_var | exact ga_nil | apply ga_cons | exact ci_nil | apply ci_none | exact const_of | exact nilB_of | exact orNil_of | exact sNil_of | apply op_of | apply val_of | apply opN_of | apply consB_of | apply op2_of | apply truth_of | apply test2_of | apply not_of | apply or_of | apply bo_of | apply op1_of | apply items_of | apply compI_of | apply seq_of | apply if_of | apply ret_of | apply ValK.ok | apply Op1K.ok | apply Op2K.ok | apply Op2L.ok | apply OpNK.ok | apply ConsBL.ok | apply ConsBK.ok | apply TruthK.ok | apply Test2L.ok | apply Test2K.ok | apply BoK.ok | apply ItemsK.ok | apply RetK.ok | exact NotK.t | exact OrK.t | apply OrK.f | apply BoL.andT | apply SeqK.next | exact SeqK.ret | apply IfK.t | apply IfK.f) | exact (rfl : listFree _ = true) | exact var_sh rfl | exact (rfl : (_ : Option _) = some _) | decide)
    have e6 : allI [.list [.bool true, .bool true]] = some (.sh (.bool true)) := rfl
    refine' run_of [some (.sh (pairD x)), some (.sh (pairD x))] rfl rfl ?_ fin_ret
    repeat' (first | (with_reducible first | assumption | exact v_sh | exact v_ow | exact tg_sh | exact look0 | apply lookS | exact g_val | apply g_var | exact ga_nil | apply ga_cons | exact ci_nil | apply ci_none | exact const_of | exact nilB_of | exact orNil_of | exact sNil_of | apply op_of | apply val_of | apply opN_of | apply consB_of | apply op2_of | apply truth_of | apply test2_of | apply not_of | apply or_of | apply bo_of | apply op1_of | apply items_of | apply compI_of | apply seq_of | apply if_of | apply ret_of | apply ValK.ok | apply Op1K.ok | apply Op2K.ok | apply Op2L.ok | apply OpNK.ok | apply ConsBL.ok | apply ConsBK.ok | apply TruthK.ok | apply Test2L.ok | apply Test2K.ok | apply BoK.ok | apply ItemsK.ok | apply RetK.ok | exact NotK.t | exact OrK.t | apply OrK.f | apply BoL.andT | apply SeqK.next | exact SeqK.ret | apply IfK.t | apply IfK.f) | exact (rfl : listFree _ = true) | exact var_sh rfl | exact (rfl : (_ : Option _) = some _) | decide)
end Mine
end

section
set_option Elab.async false
set_option maxRecDepth 100000
set_option maxHeartbeats 4000000
set_option linter.unusedSimpArgs false
set_option linter.unusedVariables false
namespace Mine
open PySem PySem.W
theorem other_loop (K : Frag) {n : Nat} {x0 x1 x2 : D} : ∀ (l : List (List Nat)) (b : List Int) (v : Option T), (∀ c ∈ l, Change n c) → Row n b → ∃ b' v', Row n b' ∧
    forN (bName 4) (sSeq (sAssign 3 (eCall (F_law_rung K) (eConsB (eOp 3) (eConsB (eOp 4) eNilB)))) sNil) (chD l) [some (.sh x0), some (.sh x1), some (.sh x2), some (.sh (.tup (iL b))), v] = .ok .next [some (.sh x0), some (.sh x1), some (.sh x2), some (.sh (.tup (iL b'))), v'] := by
  intro l
  induction l with
  | nil => intro b v _ rb; exact ⟨b, v, rb, rfl⟩
  | cons c cs ih =>
    intro b v h rb
    have hcc := h c (.head _)
    have e1 := F_law_rung_ok K rb.len rb.h12 hcc.ok
    obtain ⟨b', v', rb', hh⟩ := ih (rung b c) (some (.sh (.tup (nD c)))) (fun x hx => h x (.tail _ hx)) (rb.rung hcc.ok)
    refine ⟨b', v', rb', ?_⟩
    show forN _ _ (D.tup (nD c) :: chD cs) _ = _
    repeat' (first | (with_reducible first | assumption | exact tg_sh | exact look0 | apply lookS | exact set0 | apply setS | apply g_var | exact ga_nil | apply ga_cons | exact nilB_of | exact sNil_of | apply op_of | apply consB_of | apply call_of | apply seq_of | apply asg_of | apply CallK.ok | apply ConsBL.ok | apply ConsBK.ok | apply AsgK.ok | apply SeqK.next | apply for_cons | apply bName_of | apply ForL.next) | exact ce_ok rfl | exact (rfl : listFree _ = true) | exact (rfl : (_ : Option _) = some _) | decide)
theorem F_law_other_ok (K : Frag) (c : Int) {n : Nat} {chs : List (List Nat)} {a : List Int} (hc : Chs n chs) (ra : Row n a) : ∃ b, F_law_other K [.int c, .list (chD chs), .tup (iL a)] = .ok (.sh (.tup (iL b))) ∧ Row n b := by
  have hlen := hc.len
  have e1 := lenI_tup (ds := iL a) (by rw [iL_length, ra.len]; have := ra.h12; omega)
  rw [iL_length, ra.len] at e1
  have e2 := lenI_list (ds := chD chs) (by rw [chD_len]; omega)
  rw [chD_len] at e2
  obtain ⟨b0, r1, r2⟩ := F_law_row_ok K c n hc.h3 hc.h12
  have l1 := F_law_lead_ok K ra.len hc
  obtain ⟨p, hp1, hp2⟩ := fmod_nat (c.fdiv 4) (n := chs.length + 1) (by omega)
  obtain ⟨m, hm1, hm2⟩ := fmod_nat (c.fdiv 52) (n := chs.length + 1) (by omega)
  have d1 : modI (.int (c.fdiv 4)) (.int ((chs.length : Int) + 1)) = some (.sh (.int p)) := by
    have : ((chs.length : Int) + 1) = ((chs.length + 1 : Nat) : Int) := by omega
    rw [modI_of (by omega), this, hp1]
  have d2 : modI (.int (c.fdiv 52)) (.int ((chs.length : Int) + 1)) = some (.sh (.int m)) := by
    have : ((chs.length : Int) + 1) = ((chs.length + 1 : Nat) : Int) := by omega
    rw [modI_of (by omega), this, hm1]
  have hpl : p < (leadL a chs).length := by rw [leadL_len]; exact hp2
  have rx := lead_rows hc.all ra _ (List.getElem_mem hpl)
  have d3 := idx_rows (l := leadL a chs) (i := p) (List.getElem?_eq_getElem hpl) (by rw [leadL_len]; omega)
  generalize (leadL a chs)[p] = x at rx d3
  have d4 : sliceI (.list (chD chs)) none (some (m : Int)) = some (.ow true (.list (chD (chs.take m)))) := by
    rw [sliceI_l (by rw [chD_len]; omega), cut_to (by rw [chD_len]; omega)]
    unfold chD; rw [List.map_take]
  obtain ⟨b', v', rb', hloop⟩ := other_loop K (x0 := .int c) (x1 := .list (chD chs)) (x2 := .tup (iL a)) (chs.take m).reverse x none (fun y hy => hc.all y (List.mem_of_mem_take (List.mem_reverse.mp hy))) rx
  have d5 : (chD (chs.take m)).reverse = chD (chs.take m).reverse := by unfold chD; rw [List.map_reverse]
  rw [← d5] at hloop
  unfold F_law_other f_law_other
  by_cases h0 : c.fmod 4 = 0
  · have q0 : eqI (.int (c.fmod 4)) (.int 0) = some (.sh (.bool true)) := by rw [h0]; exact eqI_t 0
    refine ⟨b0, ?_, r2⟩
    refine' run_of [some (.sh (.int c)), some (.sh (.list (chD chs))), some (.sh (.tup (iL a))), none, none] rfl rfl ?_ fin_ret
    repeat' (first | (with_reducible first | assumption | exact v_sh | exact v_ow | exact tg_sh | exact look0 | apply lookS | exact set0 | apply setS | exact g_val | apply g_var | exact ga_nil | apply ga_cons | exact const_of | exact nilB_of | exact noPart_of | exact sNil_of | apply op_of | apply val_of | apply opN_of | apply consB_of | apply op2_of | apply call_of | apply test2_of | apply part_of | apply slice_of | apply seq_of | apply if_of | apply ret_of | apply asg_of | apply for_of | apply modI_of | apply divI_of | apply rev_of | apply ValK.ok | apply Op2K.ok | apply Op2L.ok | apply OpNK.ok | apply CallK.ok | apply ConsBL.ok | apply ConsBK.ok | apply Test2L.ok | apply Test2K.ok | apply RetK.ok | apply AsgK.ok | apply ForK.ok | apply SeqK.next | exact SeqK.ret | apply IfK.t | apply IfK.f) | exact ce_ok rfl | exact (rfl : listFree _ = true) | exact retVar_sh rfl | exact (rfl : (_ : Option _) = some _) | decide)
  · have q0 := eqI_f h0
    by_cases h3 : c.fmod 4 = 3
    · have q3 : eqI (.int (c.fmod 4)) (.int 3) = some (.sh (.bool true)) := by rw [h3]; exact eqI_t 3
      refine ⟨a, ?_, ra⟩
      refine' run_of [some (.sh (.int c)), some (.sh (.list (chD chs))), some (.sh (.tup (iL a))), none, none] rfl rfl ?_ fin_ret
      repeat' (first | (with_reducible first | assumption | exact v_sh | exact v_ow | exact tg_sh | exact look0 | apply lookS | exact set0 | apply setS | exact g_val | apply g_var | exact ga_nil | apply ga_cons | exact const_of | exact nilB_of | exact noPart_of | exact sNil_of | apply op_of | apply val_of | apply opN_of | apply consB_of | apply op2_of | apply call_of | apply test2_of | apply part_of | apply slice_of | apply seq_of | apply if_of | apply ret_of | apply asg_of | apply for_of | apply modI_of | apply divI_of | apply rev_of | apply ValK.ok | apply Op2K.ok | apply Op2L.ok | apply OpNK.ok | apply CallK.ok | apply ConsBL.ok | apply ConsBK.ok | apply Test2L.ok | apply Test2K.ok | apply RetK.ok | apply AsgK.ok | apply ForK.ok | apply SeqK.next | exact SeqK.ret | apply IfK.t | apply IfK.f) | exact ce_ok rfl | exact (rfl : listFree _ = true) | exact retVar_sh rfl | exact (rfl : (_ : Option _) = some _) | decide)
    · have q3 := eqI_f h3
      by_cases h1 : c.fmod 4 = 1
      · have q1 : eqI (.int (c.fmod 4)) (.int 1) = some (.sh (.bool true)) := by rw [h1]; exact eqI_t 1
        refine ⟨x, ?_, rx⟩
        refine' run_of [some (.sh (.int c)), some (.sh (.list (chD chs))), some (.sh (.tup (iL a))), none, none] rfl rfl ?_ fin_ret
        repeat' (first | (with_reducible first | assumption | exact v_sh | exact v_ow | exact tg_sh | exact look0 | apply lookS | exact set0 | apply setS | exact g_val | apply g_var | exact ga_nil | apply ga_cons | exact const_of | exact nilB_of | exact noPart_of | exact sNil_of | apply op_of | apply val_of | apply opN_of | apply consB_of | apply op2_of | apply call_of | apply test2_of | apply part_of | apply slice_of | apply seq_of | apply if_of | apply ret_of | apply asg_of | apply for_of | apply modI_of | apply divI_of | apply rev_of | apply ValK.ok | apply Op2K.ok | apply Op2L.ok | apply OpNK.ok | apply CallK.ok | apply ConsBL.ok | apply ConsBK.ok | apply Test2L.ok | apply Test2K.ok | apply RetK.ok | apply AsgK.ok | apply ForK.ok | apply SeqK.next | exact SeqK.ret | apply IfK.t | apply IfK.f) | exact ce_ok rfl | exact (rfl : listFree _ = true) | exact retVar_sh rfl | exact (rfl : (_ : Option _) = some _) | decide)
      · have q1 := eqI_f h1
        refine ⟨b', ?_, rb'⟩
        refine' run_of [some (.sh (.int c)), some (.sh (.list (chD chs))), some (.sh (.tup (iL a))), none, none] rfl rfl ?_ fin_ret
        repeat' (first | (with_reducible first | assumption | exact v_sh | exact v_ow | exact tg_sh | exact look0 | apply lookS | exact set0 | apply setS | exact g_val | apply g_var | exact ga_nil | apply ga_cons | exact const_of | exact nilB_of | exact noPart_of | exact sNil_of | apply op_of | apply val_of | apply opN_of | apply consB_of | apply op2_of | apply call_of | apply test2_of | apply part_of | apply slice_of | apply seq_of | apply if_of | apply ret_of | apply asg_of | apply for_of | apply modI_of | apply divI_of | apply rev_of | apply ValK.ok | apply Op2K.ok | apply Op2L.ok | apply OpNK.ok | apply CallK.ok | apply ConsBL.ok | apply ConsBK.ok | apply Test2L.ok | apply Test2K.ok | apply RetK.ok | apply AsgK.ok | apply ForK.ok | apply SeqK.next | exact SeqK.ret | apply IfK.t | apply IfK.f) | exact ce_ok rfl | exact (rfl : listFree _ = true) | exact retVar_sh rfl | exact (rfl : (_ : Option _) = some _) | decide)
theorem F_law_told_bad (K : Frag) (hK : ExcI K 56 1) {m d e : D} (h : F_meets K [m, d, e] = .exc 56) : F_law_told K [m, d, e] = .ok (told "row") := by
  have w : F_law_word K [.exc 56] = .ok (told "row") := F_law_word_ok K 56 1 (by decide) hK
  have mm := hK.m
  unfold F_law_told f_law_told
  refine' run_of [some (.sh m), some (.sh d), some (.sh e), none] rfl rfl ?_ fin_ret
  repeat' (first | (with_reducible first | assumption | exact tg_sh | exact look0 | apply lookS | exact set0 | apply setS | apply g_var | exact ga_nil | apply ga_cons | exact ce_exc | exact nilB_of | apply op_of | apply consB_of | apply call_of | apply seq_of | apply ret_of | apply try_of | apply CallK.ok | apply ConsBL.ok | apply ConsBK.ok | apply RetK.ok | exact RetK.exc | exact SeqK.ret | exact SeqK.exc | apply TryK.exc) | exact ce_ok rfl | exact (rfl : listFree _ = true) | exact (rfl : (_ : Option _) = some _) | decide)
end Mine
end

section
set_option Elab.async false
set_option maxRecDepth 100000
set_option maxHeartbeats 4000000
set_option linter.unusedSimpArgs false
set_option linter.unusedVariables false
namespace Mine
open PySem PySem.W
theorem bad_other (K : Frag) {n : Nat} {chs ws : List (List Nat)} {d : D} (hc : calm d = true) (ht : ∀ ds, d ≠ .tup ds) : F_Method_lead K [mth n chs ws, d] = .exc 56 := F_lead_bad K (F_need_head_bad K (F_is_row_other K d hc ht))
theorem bad_len (K : Frag) {n : Nat} {chs ws : List (List Nat)} {l : List Int} (hl : l.length ≤ 1000) (hn : l.length ≠ n) : F_Method_lead K [mth n chs ws, .tup (iL l)] = .exc 56 := by
  refine F_lead_bad K ?_
  by_cases h : 3 ≤ l.length ∧ l.length ≤ 12
  · by_cases hp : l.Perm (rng l.length)
    · exact F_need_head_len K (F_is_row_row K ⟨hp, h.1, h.2⟩) (by rw [iL_length]; omega) (by rw [iL_length]; exact hn)
    · exact F_need_head_bad K (F_is_row_bad K l h.1 h.2 hp)
  · exact F_need_head_bad K (F_is_row_len K (iL l) (by rw [iL_length]; omega) (by rw [iL_length]; exact h))
theorem bad_twice (K : Frag) {n : Nat} {chs ws : List (List Nat)} {a : List Int} (ra : Row n a) : F_Method_lead K [mth n chs ws, .tup (iL (a.take (n - 1) ++ a.take 1))] = .exc 56 := by
  have hn := ra.h3
  have hl := ra.len
  refine F_lead_bad K (F_need_head_bad K (F_is_row_bad K _ (by rw [List.length_append, List.length_take, List.length_take]; omega) (by have := ra.h12; rw [List.length_append, List.length_take, List.length_take]; omega) fun hp => ?_))
  have nd : (a.take (n - 1) ++ a.take 1).Nodup := by
    rw [hp.nodup_iff]
    exact (Row.nodup (n := (a.take (n - 1) ++ a.take 1).length) ⟨.refl _, by rw [List.length_append, List.length_take, List.length_take]; omega, by have := ra.h12; rw [List.length_append, List.length_take, List.length_take]; omega⟩)
  cases a with
  | nil => simp at hl; omega
  | cons x r =>
    have h1 : x ∈ (x :: r).take (n - 1) := by
      rw [show n - 1 = (n - 2) + 1 by omega, List.take_succ_cons]; exact .head _
    have h2 : x ∈ (x :: r).take 1 := .head _
    exact (List.nodup_append.mp nd).2.2 x h1 x h2 rfl
theorem bad_str (K : Frag) {n : Nat} {chs ws : List (List Nat)} {a : List Int} (ra : Row n a) : F_Method_lead K [mth n chs ws, .tup (.str "0" :: iL (a.drop 1))] = .exc 56 := by
  have hn := ra.h3
  have hl := ra.len
  have hln : (D.str "0" :: iL (a.drop 1)).length = n := by rw [List.length_cons, iL_length, List.length_drop]; omega
  refine F_lead_bad K (F_need_head_bad K (F_is_row_notW K _ (by omega) (by have := ra.h12; omega) (fun d hd => ?_) rfl))
  rcases List.mem_cons.mp hd with rfl | hd
  · rfl
  · obtain ⟨i, _, rfl⟩ := List.mem_map.mp hd; rfl
noncomputable def chOf (K : Frag) (c : Int) (n : Nat) : List Nat := by
  classical exact if h : 3 ≤ n ∧ n ≤ 12 then Classical.choose (F_law_change_ok K c n h.1 h.2) else []
theorem chOf_ok (K : Frag) (c : Int) {n : Nat} (h3 : 3 ≤ n) (h12 : n ≤ 12) : F_law_change K [.int c, .int n] = .ok (.sh (.tup (nD (chOf K c n)))) ∧ Change n (chOf K c n) := by
  unfold chOf
  rw [dif_pos ⟨h3, h12⟩]
  exact Classical.choose_spec (F_law_change_ok K c n h3 h12)
theorem inner_comp (K : Frag) {n m : Nat} {ns : List Int} (hl : ns.length ≤ 63) (h3 : 3 ≤ n) (h12 : n ≤ 12) (hm : m ≤ 30) : ∃ chs, Chs n chs ∧ compN (bName 1) eAll (eCall (F_law_change K) (eConsB (eVal (eCall (F_law_mix K) (eConsB (eVal (eCall (F_law_cell K) (eConsB (eOp 3) (eConsB (eVal (eOp2 addD (eVal (eConst (.int 2))) (eVal (eOp2 modI (eOp 1) (eVal (eConst (.int 6))))))) eNilB)))) (eConsB (eVal (eOp2 divI (eOp 1) (eVal (eConst (.int 6))))) eNilB)))) (eConsB (eOp 2) eNilB))) [none, none, some (.sh (.int n)), some (.sh (.list (iL ns)))] (iL (rng m)) [] = some (chD chs) := by
  refine ⟨(List.range m).map fun j => chOf K (mix (ns.getD (2 + j % 6) 0) ((j / 6 : Nat) : Int)) n, ⟨h3, h12, by simp; omega, fun c hc => ?_⟩, ?_⟩
  · obtain ⟨j, _, rfl⟩ := List.mem_map.mp hc
    exact (chOf_ok K _ h3 h12).2
  · have := compN_map (b := bName 1) (f := (eCall (F_law_change K) (eConsB (eVal (eCall (F_law_mix K) (eConsB (eVal (eCall (F_law_cell K) (eConsB (eOp 3) (eConsB (eVal (eOp2 addD (eVal (eConst (.int 2))) (eVal (eOp2 modI (eOp 1) (eVal (eConst (.int 6))))))) eNilB)))) (eConsB (eVal (eOp2 divI (eOp 1) (eVal (eConst (.int 6))))) eNilB)))) (eConsB (eOp 2) eNilB)))) (ρ₀ := [none, none, some (.sh (.int n)), some (.sh (.list (iL ns)))]) (g := fun d => match d with | .int k => .tup (nD (chOf K (mix (ns.getD (2 + k.toNat % 6) 0) ((k.toNat / 6 : Nat) : Int)) n)) | _ => .none) (iL (rng m)) (fun d hd => ?_) (by rw [iL_length, rng_length]; omega)
    · rw [this]
      unfold iL rng chD
      rw [List.map_map, List.map_map, List.map_map]
      congr 1
    · obtain ⟨k, hk, rfl⟩ := List.mem_map.mp hd
      have hk' := mem_rng.mp hk
      obtain ⟨j, rfl⟩ := Int.eq_ofNat_of_zero_le hk'.1
      have e1 : modI (.int (j : Int)) (.int 6) = some (.sh (.int ((j % 6 : Nat) : Int))) := by
        rw [modI_of (by decide)]; congr 3; rw [Int.fmod_eq_emod_of_nonneg _ (by decide)]; rfl
      have e2 : addD (.int 2) (.int ((j % 6 : Nat) : Int)) = some (.sh (.int ((2 + j % 6 : Nat) : Int))) := rfl
      have e3 := F_law_cell_ok K ns (2 + j % 6) hl
      have e4 : divI (.int (j : Int)) (.int 6) = some (.sh (.int ((j / 6 : Nat) : Int))) := by
        rw [divI_of (by decide)]; congr 3; rw [Int.fdiv_eq_ediv_of_nonneg _ (by decide)]; rfl
      have e5 := F_law_mix_ok K (ns.getD (2 + j % 6) 0) ((j / 6 : Nat) : Int) (small_of (by omega))
      have e6 := (chOf_ok K (mix (ns.getD (2 + j % 6) 0) ((j / 6 : Nat) : Int)) h3 h12).1
      refine ⟨[none, some (.sh (.int j)), some (.sh (.int n)), some (.sh (.list (iL ns)))], .sh (.tup (nD (chOf K (mix (ns.getD (2 + j % 6) 0) ((j / 6 : Nat) : Int)) n))), [none, some (.sh (.int j)), some (.sh (.int n)), some (.sh (.list (iL ns)))], rfl, ?_, rfl⟩
      repeat' (first | (with_reducible first | assumption | exact v_sh | exact tg_sh | exact look0 | apply lookS | exact g_val | apply g_var | exact ga_nil | apply ga_cons | exact const_of | exact nilB_of | apply op_of | apply val_of | apply consB_of | apply op2_of | apply call_of | apply modI_of | apply divI_of | apply ValK.ok | apply Op2K.ok | apply Op2L.ok | apply CallK.ok | apply ConsBL.ok | apply ConsBK.ok) | exact ce_ok rfl | exact (rfl : listFree _ = true) | exact (rfl : (_ : Option _) = some _) | decide)
theorem turned_comp {n : Nat} {a b : List Int} (r : Row n a) (rb : Row n b) : compN (bName 1) eAll (eOp2 idxI (eVal (eCompI [none, none, some 1, some 3] (eItems (eOpN rangeI (eConsB (eOp 2) eNilB))) (bName 1) (eTest2 eqI (eVal (eOp2 idxI (eOp 3) (eOp 1))) (eOp 2)) (eVar 1))) (eVal (eConst (.int 0)))) [none, none, some (.sh (.int n)), some (.sh (.tup (iL a)))] (iL b) [] = some (iL (comp (turn n a) b)) := by
  have h12 := r.h12
  have := compN_map (b := bName 1) (f := (eOp2 idxI (eVal (eCompI [none, none, some 1, some 3] (eItems (eOpN rangeI (eConsB (eOp 2) eNilB))) (bName 1) (eTest2 eqI (eVal (eOp2 idxI (eOp 3) (eOp 1))) (eOp 2)) (eVar 1))) (eVal (eConst (.int 0))))) (ρ₀ := [none, none, some (.sh (.int n)), some (.sh (.tup (iL a)))]) (g := fun d => match d with | .int b => .int (at' (turn n a) b) | _ => .none) (iL b) (fun d hd => ?_) (by rw [iL_length, rb.len]; omega)
  · rw [this]
    unfold iL comp
    rw [List.map_map, List.map_map]
    rfl
  · obtain ⟨x, hx, rfl⟩ := List.mem_map.mp hd
    have hb' := rb.vals x hx
    have e1 := turn_inner r x
    have e2 := items_rng n (by omega)
    obtain ⟨p, hp, hpb⟩ := r.surj (b := x.toNat) (by omega)
    obtain ⟨l, hl⟩ := filter_one r hp
    rw [hpb, Int.toNat_of_nonneg hb'.1] at hl
    rw [hl] at e1
    have hv : at' (turn n a) x = (p : Int) := by
      have := (turn_inv r).at_ p hp
      rw [hpb, Int.toNat_natCast] at this
      unfold at'
      rw [List.getD_eq_getElem?_getD, this]; rfl
    refine ⟨[none, some (.sh (.int x)), some (.sh (.int n)), some (.sh (.tup (iL a)))], .sh (.int p), [none, some (.sh (.int x)), some (.sh (.int n)), some (.sh (.tup (iL a)))], rfl, ?_, by show D.int p = D.int _; rw [hv]⟩
    have e3 : idxI (.list (iL ((p : Int) :: l))) (.int 0) = some (.sh (.int p)) := il0
    repeat' (first | (with_reducible first | assumption | exact v_sh | exact v_ow | exact tg_sh | exact look0 | apply lookS | exact g_val | apply g_var | exact ga_nil | apply ga_cons | exact ci_nil | apply ci_none | apply ci_some | exact w_sh | exact const_of | exact nilB_of | apply op_of | apply val_of | apply opN_of | apply consB_of | apply op2_of | apply items_of | apply compI_of | apply ValK.ok | apply Op2K.ok | apply Op2L.ok | apply OpNK.ok | apply ConsBL.ok | apply ConsBK.ok | apply ItemsK.ok | exact il0) | exact (rfl : listFree _ = true) | exact (rfl : (_ : Option _) = some _) | decide)
end Mine
end

section
set_option Elab.async false
set_option maxRecDepth 100000
set_option maxHeartbeats 4000000
set_option linter.unusedSimpArgs false
set_option linter.unusedVariables false
namespace Mine
open PySem PySem.W
structure KF8 (K : Frag) : Prop where
  row : ExcI K 56 1
theorem pairs_loop (K : Frag) {n : Nat} {chs : List (List Nat)} (hc : Chs n chs) {x0 x1 x2 x5 x6 : D} {x7 : T} : ∀ (l : List (List Int × List Int)) (v : Option T), (∀ x ∈ l, Row n x.1 ∧ Row n x.2) → ∃ v',
    forN (bName 8) (sSeq (sIf (eNot (eTruth (eVal (eCall (F_law_same K) (eConsB (eVal (eCall (F_meets K) (eConsB (eOp 4) (eConsB (eVal (eOp2 idxI (eOp 8) (eVal (eConst (.int 0))))) (eConsB (eVal (eOp2 idxI (eOp 8) (eVal (eConst (.int 1))))) eNilB))))) (eConsB (eVal (eCall (F_law_due K) (eConsB (eOp 3) (eConsB (eVal (eOp2 idxI (eOp 8) (eVal (eConst (.int 0))))) (eConsB (eVal (eOp2 idxI (eOp 8) (eVal (eConst (.int 1))))) eNilB))))) eNilB)))))) (sSeq (sRet (eConst (.bool false))) sNil) sNil) sNil) (l.map fun x => D.tup [.tup (iL x.1), .tup (iL x.2)]) [some (.sh x0), some (.sh x1), some (.sh x2), some (.ow true (.list (chD chs))), some (.sh (mth n chs [[0]])), some (.sh x5), some (.sh x6), some x7, v, none, none, none, none, none, none] = .ok .next [some (.sh x0), some (.sh x1), some (.sh x2), some (.ow true (.list (chD chs))), some (.sh (mth n chs [[0]])), some (.sh x5), some (.sh x6), some x7, v', none, none, none, none, none, none] := by
  intro l
  induction l with
  | nil => intro v _; exact ⟨v, rfl⟩
  | cons x r ih =>
    intro v h
    obtain ⟨r1, r2⟩ := h x (.head _)
    have e1 := F_meets_ok K (ws := [[0]]) hc r1 r2
    have e2 := F_law_due_ok K hc r1.len r2.len
    have e3 := F_law_same_ok K (due chs x.1 x.2)
    have lf := lf_res (due chs x.1 x.2)
    obtain ⟨v', hh⟩ := ih (some (.sh (.tup [.tup (iL x.1), .tup (iL x.2)]))) fun y hy => h y (.tail _ hy)
    refine ⟨v', ?_⟩
    rw [List.map_cons]
    generalize resD (due chs x.1 x.2) = X at *
    repeat' (first | (with_reducible first | assumption | exact v_sh | exact tg_sh | exact tg_ow | exact look0 | apply lookS | exact set0 | apply setS | exact g_val | apply g_var | exact ga_nil | apply ga_cons | exact const_of | exact nilB_of | exact sNil_of | apply op_of | apply val_of | apply consB_of | apply op2_of | apply call_of | apply truth_of | apply not_of | apply seq_of | apply if_of | apply ValK.ok | apply Op2K.ok | apply Op2L.ok | apply CallK.ok | apply ConsBL.ok | apply ConsBK.ok | apply TruthK.ok | exact NotK.t | apply SeqK.next | apply IfK.f | apply for_cons | apply bName_of | apply ForL.next | exact ix0 | exact ix1) | exact ce_ok rfl | apply ce_free rfl v_sh | apply ce_free rfl v_ow | exact (rfl : listFree _ = true) | exact (rfl : (_ : Option _) = some _) | decide)
theorem ne_res (x : Option (Nat × Nat)) : neI (resD x) (resD x) = some (.sh (.bool false)) := by
  cases x with
  | none => rfl
  | some x =>
    have := neI_tup [(x.1 : Int), (x.2 : Int)] [(x.1 : Int), (x.2 : Int)]
    rw [eqB_true.mpr rfl] at this; exact this
theorem bad_any (K : Frag) {n : Nat} {chs : List (List Nat)} {a : List Int} (ra : Row n a) (i : Nat) (hi : i < 6) : ∃ d, [D.list (iL a), .none, .tup (iL (a.drop 1)), .tup (iL (a.take (n - 1) ++ a.take 1)), .tup (iL (rng (n + 1))), .tup (.str "0" :: iL (a.drop 1))][i]? = some d ∧ F_Method_lead K [mth n chs [[0]], d] = .exc 56 := by
  have h3 := ra.h3
  have h12 := ra.h12
  have hl := ra.len
  match i with
  | 0 => exact ⟨_, rfl, bad_other K rfl (fun _ h => by cases h)⟩
  | 1 => exact ⟨_, rfl, bad_other K rfl (fun _ h => by cases h)⟩
  | 2 => exact ⟨_, rfl, bad_len K (by rw [List.length_drop]; omega) (by rw [List.length_drop]; omega)⟩
  | 3 => exact ⟨_, rfl, bad_twice K ra⟩
  | 4 => exact ⟨_, rfl, bad_len K (by rw [rng_length]; omega) (by rw [rng_length]; omega)⟩
  | 5 => exact ⟨_, rfl, bad_str K ra⟩
theorem law_many (c : Int) : ∃ m : Nat, m ≤ 30 ∧ ∀ {K : Frag} {ns : List Int} (hcell : F_law_cell K [.list (iL ns), .int 1] = .ok (.sh (.int c))) {x1 x3 x4 x5 x6 x7 x8 x9 x10 x11 x12 x13 x14 : Option T}, ∃ q : Int,
    modI (.int c) (.int 12) = some (.sh (.int q)) ∧ (sIf (eTest2 eqI (eVal (eOp2 modI (eVal (eOp2 divI (eVal (eCall (F_law_cell K) (eConsB (eOp 0) (eConsB (eVal (eConst (.int 1))) eNilB)))) (eVal (eConst (.int 12))))) (eVal (eConst (.int 16))))) (eVal (eConst (.int 1)))) (sSeq (sAssign 2 (eOp2 addD (eVal (eConst (.int 12))) (eVal (eOp2 modI (eVal (eOp2 divI (eVal (eCall (F_law_cell K) (eConsB (eOp 0) (eConsB (eVal (eConst (.int 1))) eNilB)))) (eVal (eConst (.int 192))))) (eVal (eConst (.int 19))))))) sNil) sNil) [some (.sh (.list (iL ns))), x1, some (.sh (.int q)), x3, x4, x5, x6, x7, x8, x9, x10, x11, x12, x13, x14] = .ok .next [some (.sh (.list (iL ns))), x1, some (.sh (.int m)), x3, x4, x5, x6, x7, x8, x9, x10, x11, x12, x13, x14] := by
  obtain ⟨p, hp1, hp2⟩ := fmod_nat c (n := 12) (by decide)
  obtain ⟨r, hr1, hr2⟩ := fmod_nat (c.fdiv 192) (n := 19) (by decide)
  have d1 : modI (.int c) (.int 12) = some (.sh (.int p)) := by rw [modI_of (by decide)]; rw [show c.fmod 12 = p from hp1]
  have d2 : modI (.int (c.fdiv 192)) (.int 19) = some (.sh (.int r)) := by rw [modI_of (by decide)]; rw [show (c.fdiv 192).fmod 19 = r from hr1]
  by_cases h : (c.fdiv 12).fmod 16 = 1
  · have q1 : eqI (.int ((c.fdiv 12).fmod 16)) (.int 1) = some (.sh (.bool true)) := by rw [h]; exact eqI_t 1
    have q2 : addD (.int 12) (.int r) = some (.sh (.int ((12 + r : Nat) : Int))) := rfl
    refine ⟨12 + r, by omega, fun hcell => ⟨p, d1, ?_⟩⟩
    repeat' (first | (with_reducible first | assumption | exact v_sh | exact tg_sh | exact look0 | exact set0 | apply setS | exact g_val | apply g_var | exact ga_nil | apply ga_cons | exact const_of | exact nilB_of | exact sNil_of | apply op_of | apply val_of | apply consB_of | apply op2_of | apply call_of | apply test2_of | apply seq_of | apply if_of | apply asg_of | apply modI_of | apply divI_of | apply ValK.ok | apply Op2K.ok | apply Op2L.ok | apply CallK.ok | apply ConsBL.ok | apply ConsBK.ok | apply Test2L.ok | apply Test2K.ok | apply AsgK.ok | apply SeqK.next | apply IfK.t | apply IfK.f) | exact ce_ok rfl | exact (rfl : listFree _ = true) | exact (rfl : (_ : Option _) = some _) | decide)
  · have q1 := eqI_f h
    refine ⟨p, by omega, fun hcell => ⟨p, d1, ?_⟩⟩
    repeat' (first | (with_reducible first | assumption | exact v_sh | exact tg_sh | exact look0 | exact set0 | apply setS | exact g_val | apply g_var | exact ga_nil | apply ga_cons | exact const_of | exact nilB_of | exact sNil_of | apply op_of | apply val_of | apply consB_of | apply op2_of | apply call_of | apply test2_of | apply seq_of | apply if_of | apply asg_of | apply modI_of | apply divI_of | apply ValK.ok | apply Op2K.ok | apply Op2L.ok | apply CallK.ok | apply ConsBL.ok | apply ConsBK.ok | apply Test2L.ok | apply Test2K.ok | apply AsgK.ok | apply SeqK.next | apply IfK.t | apply IfK.f) | exact ce_ok rfl | exact (rfl : listFree _ = true) | exact (rfl : (_ : Option _) = some _) | decide)
end Mine
end

section
set_option Elab.async false
set_option maxRecDepth 100000
set_option maxHeartbeats 8000000
set_option linter.unusedSimpArgs false
set_option linter.unusedVariables false
namespace Mine
open PySem PySem.W
theorem cut_last {a : List Int} {n : Nat} (hl : a.length = n) (h3 : 3 ≤ n) (h12 : n ≤ 12) : sliceI (.tup (iL a)) none (some (-1)) = some (.sh (.tup (iL (a.take (n - 1))))) := by
  rw [sliceI_t (by rw [iL_length]; omega)]
  unfold cutD
  have : clipAt (iL a).length (-1) = n - 1 := by unfold clipAt; rw [iL_length, hl]; simp; omega
  simp only [Option.elim, this, List.drop_zero, Nat.sub_zero]
  unfold iL; rw [List.map_take]
theorem cut_first {a : List Int} {n : Nat} (hl : a.length = n) (h3 : 3 ≤ n) (h12 : n ≤ 12) : sliceI (.tup (iL a)) none (some 1) = some (.sh (.tup (iL (a.take 1)))) := by
  have := cut_to (ds := iL a) (p := 1) (by rw [iL_length]; omega)
  rw [sliceI_t (by rw [iL_length]; omega), show (1 : Int) = ((1 : Nat) : Int) from rfl, this]
  unfold iL; rw [List.map_take]
theorem cut_rest {a : List Int} {n : Nat} (hl : a.length = n) (h3 : 3 ≤ n) (h12 : n ≤ 12) : sliceI (.tup (iL a)) (some 1) none = some (.sh (.tup (iL (a.drop 1)))) := by
  have := cut_from (ds := iL a) (p := 1) (by rw [iL_length]; omega)
  rw [sliceI_t (by rw [iL_length]; omega), show (1 : Int) = ((1 : Nat) : Int) from rfl, this]
  unfold iL; rw [List.map_drop]
theorem lfs_iL : ∀ a : List Int, listFrees (iL a) = true
  | [] => by unfold iL; rw [List.map_nil, listFrees]
  | x :: a => by
    show listFrees (.int x :: iL a) = true
    rw [listFrees, lfs_iL a, listFree]
    · rfl
    all_goals (intros; simp_all)
theorem lf_iL (a : List Int) : listFree (.tup (iL a)) = true := by rw [listFree]; exact lfs_iL a
theorem law08_plain (K : Frag) (kf : KF8 K) (ns : List Int) (hl : ns.length ≤ 63) : F_law K [.list (ns.map .int)] = .ok (.sh (.bool true)) := by
  show F_law K [.list (iL ns)] = _
  have c0 : F_law_cell K [.list (iL ns), .int 0] = .ok (.sh (.int (ns.getD 0 0))) := F_law_cell_ok K ns 0 hl
  have c1 : F_law_cell K [.list (iL ns), .int 1] = .ok (.sh (.int (ns.getD 1 0))) := F_law_cell_ok K ns 1 hl
  have c8 : F_law_cell K [.list (iL ns), .int 8] = .ok (.sh (.int (ns.getD 8 0))) := F_law_cell_ok K ns 8 hl
  have c9 : F_law_cell K [.list (iL ns), .int 9] = .ok (.sh (.int (ns.getD 9 0))) := F_law_cell_ok K ns 9 hl
  have c10 : F_law_cell K [.list (iL ns), .int 10] = .ok (.sh (.int (ns.getD 10 0))) := F_law_cell_ok K ns 10 hl
  obtain ⟨n, h3, h12, r, t1, t2⟩ := three (ns.getD 0 0)
  obtain ⟨m, hm, H⟩ := law_many (ns.getD 1 0)
  obtain ⟨q, hq, s2⟩ := H c1 (x1 := some (.sh (.int n))) (x3 := none) (x4 := none) (x5 := none) (x6 := none) (x7 := none) (x8 := none) (x9 := none) (x10 := none) (x11 := none) (x12 := none) (x13 := none) (x14 := none)
  obtain ⟨chs, hc, s3⟩ := inner_comp K (ns := ns) hl h3 h12 hm
  have g1 : rangeI [.int (m : Int)] = some (.sh (.range 0 m 1)) := rfl
  have g2 := items_rng m (by omega)
  have g3 := listI_list (ds := chD chs) (by rw [chD_len]; have := hc.len; omega)
  obtain ⟨a, f1, ra⟩ := F_law_row_ok K (ns.getD 8 0) n h3 h12
  have f2 := F_law_mix_ok K (ns.getD 9 0) 10 (by decide)
  obtain ⟨b, f3, rb⟩ := F_law_other_ok K (mix (ns.getD 9 0) 10) hc ra
  have rt : Row n (comp (turn n a) b) := ((turn_inv ra).row ra).comp rb
  have r1 := row_rng h3 h12
  have hI : allX (I_Method K) [.int n, .list (chD chs), .list [.tup [.int 0]]] = .ok [.int n, .list (chD chs), .list [.tup [.int 0]]] := I_Method_ok K (ws := [[0]]) hc (fun c hcm => by
    rw [List.mem_singleton.mp hcm]
    exact ⟨by decide, by rw [chOk, chOk]; simp; omega⟩) (by decide) (by decide)
  have s4 : (eMake 238 ["bells", "steps", "ways"] (I_Method K) (eConsB (eOp 1) (eConsB (eVal (eOpN listI (eConsB (eOp 3) eNilB))) (eConsB (eVal (eLst (eCons (eTup (eCons (eConst (.int 0)) eNil)) eNil))) eNilB)))) [some (.sh (.list (iL ns))), some (.sh (.int n)), some (.sh (.int m)), some (.ow true (.list (chD chs))), none, none, none, none, none, none, none, none, none, none, none] = .ok (.sh (mth n chs [[0]])) [some (.sh (.list (iL ns))), some (.sh (.int n)), some (.sh (.int m)), some (.ow true (.list (chD chs))), none, none, none, none, none, none, none, none, none, none, none] := by
    refine make_of (bs := [.var 1, .val (.list (chD chs)), .val (.list [.tup [.int 0]])]) (ds := [.int n, .list (chD chs), .list [.tup [.int 0]]]) ?_ ?_ rfl hI
    · repeat' (first | (with_reducible first | assumption | exact v_sh | exact v_ow | exact tg_sh | exact tg_ow | exact look0 | apply lookS | exact set0 | apply setS | exact g_val | apply g_var | exact ga_nil | apply ga_cons | exact ci_nil | apply ci_none | apply ci_some | exact w_sh | exact len0 | apply lenC | exact const_of | exact nilB_of | exact nil_of | exact orNil_of | exact noPart_of | exact sNil_of | apply op_of | apply val_of | apply opN_of | apply consB_of | apply op2_of | apply call_of | apply cons_of | apply test2_of | apply or_of | apply bo_of | apply op1_of | apply tup_of | apply lst_of | apply part_of | apply slice_of | apply items_of | apply compI_of | apply seq_of | apply if_of | apply ret_of | apply asg_of | apply for_of | apply modI_of | apply ValK.ok | apply Op1K.ok | apply Op2K.ok | apply Op2L.ok | apply OpNK.ok | apply CallK.ok | apply ConsBL.ok | apply ConsBK.ok | apply ConsL.ok | apply ConsK.ok | apply TupK.ok | apply LstK.ok | apply Test2L.ok | apply Test2K.ok | apply BoK.ok | apply ItemsK.ok | apply RetK.ok | apply AsgK.ok | apply ForK.ok | apply OrK.f | apply BoL.andT | apply SeqK.next | exact SeqK.ret | apply IfK.f) | exact ce_ok rfl | apply ce_free rfl v_sh | apply ce_free rfl v_ow | exact (rfl : listFree _ = true) | exact var_sh rfl | exact (rfl : (_ : Option _) = some _) | decide)
    · repeat' (first | (with_reducible first | assumption | exact v_sh | exact v_ow | exact tg_sh | exact tg_ow | exact look0 | apply lookS | exact set0 | apply setS | exact g_val | apply g_var | exact ga_nil | apply ga_cons | exact ci_nil | apply ci_none | apply ci_some | exact w_sh | exact len0 | apply lenC | exact const_of | exact nilB_of | exact nil_of | exact orNil_of | exact noPart_of | exact sNil_of | apply op_of | apply val_of | apply opN_of | apply consB_of | apply op2_of | apply call_of | apply cons_of | apply test2_of | apply or_of | apply bo_of | apply op1_of | apply tup_of | apply lst_of | apply part_of | apply slice_of | apply items_of | apply compI_of | apply seq_of | apply if_of | apply ret_of | apply asg_of | apply for_of | apply modI_of | apply ValK.ok | apply Op1K.ok | apply Op2K.ok | apply Op2L.ok | apply OpNK.ok | apply CallK.ok | apply ConsBL.ok | apply ConsBK.ok | apply ConsL.ok | apply ConsK.ok | apply TupK.ok | apply LstK.ok | apply Test2L.ok | apply Test2K.ok | apply BoK.ok | apply ItemsK.ok | apply RetK.ok | apply AsgK.ok | apply ForK.ok | apply OrK.f | apply BoL.andT | apply SeqK.next | exact SeqK.ret | apply IfK.f) | exact ce_ok rfl | apply ce_free rfl v_sh | apply ce_free rfl v_ow | exact (rfl : listFree _ = true) | exact var_sh rfl | exact (rfl : (_ : Option _) = some _) | decide)
  have s9 := turned_comp ra rb
  have g4 : itemsD (.tup (iL b)) = some (iL b) := rfl
  have g5 := tuple_list (ds := iL (comp (turn n a) b)) (by rw [iL_length, rt.len]; omega)
  have g6 := tuple_rng n (by omega)
  have g7 : rangeI [.int (n : Int)] = some (.sh (.range 0 n 1)) := rfl
  have u1 := F_law_due_ok K hc ra.len rb.len
  have u2 := F_law_due_ok K hc r1.len rt.len
  have u3 := F_meets_ok K (ws := [[0]]) hc r1 rt
  rw [due_turned hc ra rb] at u2 u3
  have lf := lf_res (due chs a b)
  have lfb := lf_iL b
  have u4 := ne_res (due chs a b)
  have w1 := cut_last ra.len h3 h12
  have w2 := cut_first ra.len h3 h12
  have w3 := cut_rest ra.len h3 h12
  have w4 : negI (.int 1) = some (.sh (.int (-1))) := rfl
  have w5 : addD (.tup (iL (a.take (n - 1)))) (.tup (iL (a.take 1))) = some (.sh (.tup (iL (a.take (n - 1) ++ a.take 1)))) := by
    rw [addD_t (by rw [iL_length, iL_length, List.length_take, List.length_take, ra.len]; omega)]
    unfold iL; rw [List.map_append]
  have w6 : addD (.tup [.str "0"]) (.tup (iL (a.drop 1))) = some (.sh (.tup (.str "0" :: iL (a.drop 1)))) := by
    rw [addD_t (by rw [iL_length, List.length_drop, ra.len]; simp; omega)]; rfl
  have w7 : listI [.tup (iL a)] = some (.ow true (.list (iL a))) := listI_t (by rw [iL_length, ra.len]; omega)
  have w8 : rangeI [.int ((n : Int) + 1)] = some (.sh (.range 0 ((n : Int) + 1) 1)) := rfl
  have w9 : tupleI [.range 0 ((n : Int) + 1) 1] = some (.sh (.tup (iL (rng (n + 1))))) := tuple_rng (n + 1) (by omega)
  obtain ⟨i, hi1, hi2⟩ := fmod_nat (ns.getD 10 0) (n := 6) (by decide)
  have y1 : modI (.int (ns.getD 10 0)) (.int 6) = some (.sh (.int i)) := by rw [modI_of (by decide)]; rw [show (ns.getD 10 0).fmod 6 = i from hi1]
  obtain ⟨d, y2, y3⟩ := bad_any K (chs := chs) ra i hi2
  have y4 : idxI (.list [D.list (iL a), .none, .tup (iL (a.drop 1)), .tup (iL (a.take (n - 1) ++ a.take 1)), .tup (iL (rng (n + 1))), .tup (.str "0" :: iL (a.drop 1))]) (.int i) = some (.sh d) := idxI_list (by omega) (by omega) (by rw [Int.toNat_natCast]; exact y2)
  have z1 := F_law_told_bad K kf.row (F_meets_bad1 K (e := .tup (iL b)) y3)
  have z2 := F_law_told_bad K kf.row (F_meets_bad2 K hc ra y3)
  unfold told at z1 z2
  have z3 := eq_told "row" so_row
  unfold F_law f_law
  generalize resD (due chs a b) = X at *
  by_cases hm12 : m < 12
  · obtain ⟨v, s8⟩ := pairs_loop K hc (x0 := .list (iL ns)) (x1 := .int n) (x2 := .int m) (x5 := .tup (iL a)) (x6 := .tup (iL b)) (x7 := .ow true (.list [.tup [.tup (iL a), .tup (iL b)], .tup [.tup (iL b), .tup (iL a)], .tup [.tup (iL a), .tup (iL a)], .tup [.tup (iL a), .tup (iL b)]])) [(a, b), (b, a), (a, a), (a, b)] none (by simp [ra, rb])
    simp only [List.map_cons, List.map_nil] at s8
    have k1 := ltI_t (a := (m : Int)) (b := 12) (by omega)
    have k2 : intI [.bool true] = some (.sh (.int 1)) := rfl
    have k3 : mulD (.int 3) (.int 1) = some (.sh (.int 3)) := rfl
    have k4 : addD (.int 1) (.int 3) = some (.sh (.int 4)) := rfl
    have k5 : sliceI (.list [.tup [.tup (iL a), .tup (iL b)], .tup [.tup (iL b), .tup (iL a)], .tup [.tup (iL a), .tup (iL a)], .tup [.tup (iL a), .tup (iL b)]]) none (some 4) = some (.ow true (.list [.tup [.tup (iL a), .tup (iL b)], .tup [.tup (iL b), .tup (iL a)], .tup [.tup (iL a), .tup (iL a)], .tup [.tup (iL a), .tup (iL b)]])) := rfl
    refine' run_of [some (.sh (.list (iL ns))), none, none, none, none, none, none, none, none, none, none, none, none, none, none] rfl rfl ?_ fin_ret
    repeat' (first | (with_reducible first | assumption | exact v_sh | exact v_ow | exact tg_sh | exact tg_ow | exact look0 | apply lookS | exact set0 | apply setS | exact g_val | apply g_var | exact ga_nil | apply ga_cons | exact ci_nil | apply ci_none | apply ci_some | exact w_sh | exact len0 | apply lenC | exact const_of | exact nilB_of | exact nil_of | exact orNil_of | exact noPart_of | exact sNil_of | apply op_of | apply val_of | apply opN_of | apply consB_of | apply op2_of | apply call_of | apply cons_of | apply test2_of | apply or_of | apply bo_of | apply op1_of | apply tup_of | apply lst_of | apply part_of | apply slice_of | apply items_of | apply compI_of | apply seq_of | apply if_of | apply ret_of | apply asg_of | apply for_of | apply modI_of | apply ValK.ok | apply Op1K.ok | apply Op2K.ok | apply Op2L.ok | apply OpNK.ok | apply CallK.ok | apply ConsBL.ok | apply ConsBK.ok | apply ConsL.ok | apply ConsK.ok | apply TupK.ok | apply LstK.ok | apply Test2L.ok | apply Test2K.ok | apply BoK.ok | apply ItemsK.ok | apply RetK.ok | apply AsgK.ok | apply ForK.ok | apply OrK.f | apply BoL.andT | apply SeqK.next | exact SeqK.ret | apply IfK.f) | exact ce_ok rfl | apply ce_free rfl v_sh | apply ce_free rfl v_ow | exact (rfl : listFree _ = true) | exact var_sh rfl | exact (rfl : (_ : Option _) = some _) | decide)
  · obtain ⟨v, s8⟩ := pairs_loop K hc (x0 := .list (iL ns)) (x1 := .int n) (x2 := .int m) (x5 := .tup (iL a)) (x6 := .tup (iL b)) (x7 := .ow true (.list [.tup [.tup (iL a), .tup (iL b)], .tup [.tup (iL b), .tup (iL a)], .tup [.tup (iL a), .tup (iL a)], .tup [.tup (iL a), .tup (iL b)]])) [(a, b)] none (by simp [ra, rb])
    simp only [List.map_cons, List.map_nil] at s8
    have k1 := ltI_f (a := (m : Int)) (b := 12) (by omega)
    have k2 : intI [.bool false] = some (.sh (.int 0)) := rfl
    have k3 : mulD (.int 3) (.int 0) = some (.sh (.int 0)) := rfl
    have k4 : addD (.int 1) (.int 0) = some (.sh (.int 1)) := rfl
    have k5 : sliceI (.list [.tup [.tup (iL a), .tup (iL b)], .tup [.tup (iL b), .tup (iL a)], .tup [.tup (iL a), .tup (iL a)], .tup [.tup (iL a), .tup (iL b)]]) none (some 1) = some (.ow true (.list [.tup [.tup (iL a), .tup (iL b)]])) := rfl
    refine' run_of [some (.sh (.list (iL ns))), none, none, none, none, none, none, none, none, none, none, none, none, none, none] rfl rfl ?_ fin_ret
    repeat' (first | (with_reducible first | assumption | exact v_sh | exact v_ow | exact tg_sh | exact tg_ow | exact look0 | apply lookS | exact set0 | apply setS | exact g_val | apply g_var | exact ga_nil | apply ga_cons | exact ci_nil | apply ci_none | apply ci_some | exact w_sh | exact len0 | apply lenC | exact const_of | exact nilB_of | exact nil_of | exact orNil_of | exact noPart_of | exact sNil_of | apply op_of | apply val_of | apply opN_of | apply consB_of | apply op2_of | apply call_of | apply cons_of | apply test2_of | apply or_of | apply bo_of | apply op1_of | apply tup_of | apply lst_of | apply part_of | apply slice_of | apply items_of | apply compI_of | apply seq_of | apply if_of | apply ret_of | apply asg_of | apply for_of | apply modI_of | apply ValK.ok | apply Op1K.ok | apply Op2K.ok | apply Op2L.ok | apply OpNK.ok | apply CallK.ok | apply ConsBL.ok | apply ConsBK.ok | apply ConsL.ok | apply ConsK.ok | apply TupK.ok | apply LstK.ok | apply Test2L.ok | apply Test2K.ok | apply BoK.ok | apply ItemsK.ok | apply RetK.ok | apply AsgK.ok | apply ForK.ok | apply OrK.f | apply BoL.andT | apply SeqK.next | exact SeqK.ret | apply IfK.f) | exact ce_ok rfl | apply ce_free rfl v_sh | apply ce_free rfl v_ow | exact (rfl : listFree _ = true) | exact var_sh rfl | exact (rfl : (_ : Option _) = some _) | decide)
end Mine
end

section
set_option Elab.async false
set_option maxRecDepth 100000
namespace Mine
open PySem PySem.W PyProof.Rows
theorem KF_ok (P : Params) : KF8 (hd.heap_1 P) where
  row := ⟨by kernel_rfl, by kernel_rfl, by kernel_rfl, by kernel_rfl, by kernel_rfl, by kernel_rfl, by kernel_rfl, by kernel_rfl, by kernel_rfl⟩
end Mine
theorem PySem.Challenge.cw_uf010040_08_holds : PySem.Challenge.rw_uf010040_08.Holds :=
  Mine.law08_enter fun P ns hl => Mine.law08_plain _ (Mine.KF_ok P) ns hl
end
