import PyProof.Rows.All
import OpenK.AllK
import PyProof.StationsW
import PyProof.Cells
import PyProof.Walks
import PyProof.WalksMore
import PyProof.RangeIter
import PyProof.Rows.Frame
import PyProof.ListIndex
import PyProof.Rules2
import PyProof.Rules3
import PyProof.PureInt
import PyProof.IsRules
import PyProof.EqLayable
import PyProof.Rows.RuleB_mul
import PyProof.Rows.RuleB_mod
import PyProof.Rows.RuleB_floordiv
import PyProof.Rows.RuleB_small
import PyProof.Rows.EqDataRows
import PyProof.NoPylong
import PyProof.RulesDelMore
import PyProof.ForAny
import PyProof.RulesAs
import PyProof.NsDelKeeps
import PyProof.SliceMore
import PyProof.Rows.TupMore
import PyProof.Rows.TupSub
import PyProof.Rows.StrTemp
import PyProof.Rows.TupAdd
import PyProof.ListIndexNeg
import PyProof.ListMulAny
import PyProof.Rows.ListMul
import PyProof.ListRange
import PyProof.TupleOfSeq
import PyProof.ListCopy
import PyProof.RangeFor
import PyProof.ConsumeWalk
import PyProof.CallStr
import PyProof.Rows.SortWalk
import PyProof.Rows.Lst
import PyProof.Rows.Range3
import PyProof.Rows.ListMade
import PyProof.ListOps
import PyProof.CallRoads
import PyProof.Rows.TupAssign
import PyProof.EnumMake
import PyProof.Draws
import PyProof.Rows.TupIter
import PyProof.CompFree
import PyProof.CompUse
import KE.KRevSl
import PyProof.P3In
import PyProof.SliceStr2
import PyProof.StrOps
import PyProof.Rows.StrWeight2
import PyProof.Rows.StrIndexOr
import PyProof.StrLoop
import PyProof.StrWalks
import PyProof.Rows.StrMadeLen
import PyProof.Rows.SortStr
import PyProof.CollectStr
import PyProof.ListStr
import Wide.All
import Open.Head
import PyProof.StrLawsIn
import PyProof.Rows.RegReprOcc
import PyProof.Rows.StrLawsPart
import PyProof.Rows.StrFin3
import Wide.FinOn
import PySem.Challenge.RW_uf010040_04
section
set_option Elab.async false
set_option maxRecDepth 100000
namespace Mine
open PySem PySem.W
section
variable {prog : Program} {w : World} {A : Around} {E : Value → Shared → Prop} {h : Heap} {g : Array GenState} {d : Drawn} {t : Nat} {os : OsState} {a C : Addr} {o : Obj} {K : Frag}
theorem xc_check {M : Model} {nameV : Value} {Q : Unit → Shared → Prop} (X : K.In h) (hx : h.get? a = some o) (hc : o.cls = .ref C) (hm : mroIn K C (.type "BaseException") = some true)
    (hq : Q () ⟨h, g, d, t, os⟩) : wpAny M A (checkBuiltinCall "BaseException.__getattribute__" ⟨[.ref a, nameV], []⟩) Q E ⟨h, g, d, t, os⟩ := by
  have hk : builtinKind "BaseException.__getattribute__" = some .slot := by decide +kernel
  have hsplit : splitId "BaseException.__getattribute__" = some ("BaseException", "__getattribute__") := by decide +kernel
  have ha := F.args_bexc_ga (.ref a) nameV
  have L1 := looks_mroIn (M := M) X hm
  simp only [checkBuiltinCall, hk, hsplit]
  refine wpAny_bind ?_
  unfold isInstance
  repeat (first | (with_reducible refine wpAny_loadPart_at hx ?_; rw [hc]) | (with_reducible refine L1.at ?_) | wp_step)
  exact hq
theorem xc_get {R : Result → Shared → Prop} {tp : Value} (X : K.In h) (hx : h.get? a = some o) (hc : o.cls = .ref C) (hm : mroIn K C (.type "object") = some true) (hn : notCls o = true) (hd : o.dict = none)
    (hq : R (.ok (.ret (.ref C))) ⟨h, g, d, t, os⟩) : codeAny (model prog w) A (.call (.builtin "getset_descriptor.__get__") ⟨[.builtin "object.__class__", .ref a, tp], []⟩) R ⟨h, g, d, t, os⟩ :=
  class_get (ox := o) (od := none) X ⟨hx, hc, hn, by rw [hd]; trivial⟩ hm hq
theorem xc_entry {tk : Tok} {Q : Fin → Shared → Prop} (X : K.In h) (hx : h.get? a = some o) (hc : o.cls = .ref C) (hm : mroIn K C (.type "object") = some true) (hn : notCls o = true) (hd : o.dict = none)
    (hf : findObj K C none "__class__" = some (.bind (.builtin "getset_descriptor.__get__") (.builtin "object.__class__"))) (hq : Q (.done (.ret (.ref C))) ⟨h, g, d, t, os⟩) :
    wpAny (model prog w) A (Builtin.«object.__getattribute__» ⟨[.ref a, .str "__class__" tk], []⟩) Q E ⟨h, g, d, t, os⟩ := by
  have I : InstAt h a o C none := ⟨hx, hc, hn, by rw [hd]; trivial⟩
  have L0 := I.type (M := model prog w)
  have L1 := looks_find (M := model prog w) X I hf
  unfold Builtin.«object.__getattribute__»
  refine wpAny_bind (wpAny_pure ?_)
  refine wpAny_bind (m := Builtin.ObjectAttr.attrName _) (wpAny_pure ?_)
  refine wpAny_bind (L0.at (wpAny_bind (L1.at ?_)))
  show wpAny _ _ (holding [Value.builtin "object.__class__"] (call (.builtin "getset_descriptor.__get__") [.builtin "object.__class__", .ref a, .ref C]) >>= ret) _ _ _
  exact wpAny_bind (wpAny_holding (wpAny_call (xc_get X hx hc hm hn hd (wpAny_pure hq))))
theorem xc_by {tk : Tok} {fill expr : Bool} {Q : Value → Shared → Prop} (X : K.In h) (hx : h.get? a = some o) (hc : o.cls = .ref C) (hm : mroIn K C (.type "object") = some true) (hmb : mroIn K C (.type "BaseException") = some true) (hn : notCls o = true) (hd : o.dict = none)
    (hga : findIn K (.ref C) "__getattribute__" = some (some (.builtin "BaseException.__getattribute__"))) (hgt : findIn K (.ref C) "__getattr__" = some none)
    (hf : findObj K C none "__class__" = some (.bind (.builtin "getset_descriptor.__get__") (.builtin "object.__class__"))) (hq : Q (.ref C) ⟨h, g, d, t, os⟩) :
    wpAny (model prog w) A (getAttrBy (.ref a) (.str "__class__" tk) fill expr) Q E ⟨h, g, d, t, os⟩ := by
  have I : InstAt h a o C none := ⟨hx, hc, hn, by rw [hd]; trivial⟩
  have L0 := I.type (M := model prog w)
  have L1 := looks_findIn (M := model prog w) X hga
  have L2 := looks_findIn (M := model prog w) X hgt
  have f3 := F.excAttr_ValueError.ga.bind (.ref a)
  have hx0 : (expr && onTheHeap (Value.builtin "BaseException.__getattribute__")) = false := by cases expr <;> rfl
  have hx2 : (Value.builtin "BaseException.__getattribute__" == Value.builtin "object.__getattribute__") = false := by decide +kernel
  have hx1 : (onTheHeap (Value.ref C) && Value.builtin "BaseException.__getattribute__" == Value.builtin "object.__getattribute__") = false := by rw [hx2]; rfl
  repeat (any_goals (first | assumption | (with_reducible refine L0.at ?_) | (with_reducible refine L1.at ?_) | (with_reducible refine L2.at ?_) | wp_step))
  refine codeAny_call_builtin F.excAttr_ValueError.ga.plain F.entry_bexc_ga (xc_check X hx hc hmb (xc_entry X hx hc hm hn hd hf ?_))
  show wpAny _ _ (handedOut (.ref C)) _ _ _
  exact handed_on rfl hq
theorem kitx_exc (hm : mroIn K C (.type "object") = some true) (hmb : mroIn K C (.type "BaseException") = some true) (hcl : (clsIn K C).isSome = true)
    (hga : findIn K (.ref C) "__getattribute__" = some (some (.builtin "BaseException.__getattribute__"))) (hgt : findIn K (.ref C) "__getattr__" = some none)
    (hf : findObj K C none "__class__" = some (.bind (.builtin "getset_descriptor.__get__") (.builtin "object.__class__"))) :
    KitX K (.ref a) (.ref C) (fun h => ∃ o, h.get? a = some o ∧ o.cls = .ref C ∧ notCls o = true ∧ o.dict = none) where
  ty := fun _ _ _ I => by obtain ⟨o, h1, h2, h3, h4⟩ := I; exact InstAt.type (od := none) ⟨h1, h2, h3, by rw [h4]; trivial⟩
  it := fun M h X _ => by
    unfold clsIn at hcl
    split at hcl
    · rename_i ho
      intro A' Q' E' s' k q
      unfold isType loadHead
      exact wpAny_bind (wpAny_loadPart (k _ _ (X _ _ ho)) (wpAny_pure q))
    · cases hcl
  ne := fun h tp dd its n sl X e => by
    unfold clsIn at hcl
    split at hcl
    · rename_i ho
      refine Bool.eq_false_iff.mpr fun q => ?_
      cases beq_iff_eq.mp q
      rw [X _ _ ho] at e; cases e
    · cases hcl
  ca := fun {prog w A E Q s} X I k => by
    obtain ⟨o, h1, h2, h3, h4⟩ := I
    obtain ⟨h, g, d, t, os⟩ := s
    unfold getAttr? getAttrBy?
    refine wpAny_bind (wpAny_mkText (wpAny_bind (wpAny_attempt ?_)))
    exact xc_by X h1 h2 hm hmb h3 h4 hga hgt hf (wpAny_pure k)
noncomputable def excAsk (K : Frag) (C : Addr) : Bool := mroIn K C (.type "object") == some true && mroIn K C (.type "BaseException") == some true && (clsIn K C).isSome && findIn K (.ref C) "__getattribute__" == some (some (.builtin "BaseException.__getattribute__")) &&
  findIn K (.ref C) "__getattr__" == some none && (match findObj K C none "__class__" with | some (.bind g a) => g == .builtin "getset_descriptor.__get__" && a == .builtin "object.__class__" | _ => false)
theorem kitx_of_ask (e : excAsk K C = true) : KitX K (.ref a) (.ref C) (fun h => ∃ o, h.get? a = some o ∧ o.cls = .ref C ∧ notCls o = true ∧ o.dict = none) := by
  unfold excAsk at e
  simp only [Bool.and_eq_true, beq_iff_eq] at e
  obtain ⟨⟨⟨⟨⟨h1, h2⟩, h3⟩, h4⟩, h5⟩, h6⟩ := e
  refine kitx_exc h1 h2 h3 h4 h5 ?_
  split at h6
  · rename_i gg aa hf
    rw [Bool.and_eq_true, beq_iff_eq, beq_iff_eq] at h6
    rw [hf, h6.1, h6.2]
  · cases h6
theorem wp_excMatches {M : Model} {C' : Addr} {b : Bool} {Q : Bool → Shared → Prop} {s : Shared} (X : K.In s.heap) (hx : s.heap.get? a = some o) (hc : o.cls = .ref C) (hty : typeIn K (.ref C') = some (.type "type")) (hcl : (clsIn K C').isSome = true) (hbe : mroIn K C' (.type "BaseException") = some true)
    (hs : mroIn K C (.ref C') = some b) (hq : Q b s) : wpAny M A (excMatches (.ref a) (.ref C')) Q E s := by
  have L1 := looks_typeIn (M := M) X hty
  have L2 : Looks M s.heap (isSubtype (.type "type") (.type "tuple")) false := looks_subIn (K := K) X (by kernel_rfl)
  have L3 : Looks M s.heap (isType (.ref C')) true := by
    unfold clsIn at hcl
    split at hcl
    · rename_i ho
      intro A' Q' E' s' k q
      unfold isType loadHead
      exact wpAny_bind (wpAny_loadPart (k _ _ (X _ _ ho)) (wpAny_pure q))
    · cases hcl
  have L4 := looks_mroIn (M := M) X hbe
  have L5 : Looks M s.heap (typeOf (.ref a)) (.ref C) := by have := (Looks.ld (M := M) (part := some headPart) hx).andThen (f := fun o => pure o.cls) .now; rw [hc] at this; exact this
  have L6 := looks_mroIn (M := M) X hs
  unfold excMatches
  refine wpAny_bind ((L1.andThen (f := fun t => isSubtype t (.type "tuple")) L2).here ?_)
  simp only [Bool.false_eq_true, if_false]
  refine wpAny_bind (wpAny_pure ?_)
  rw [List.forIn_cons]
  refine wpAny_bind (wpAny_bind ?_)
  show wpAny _ _ (isExcClass (.ref C') >>= _) _ _ _
  refine wpAny_bind ?_
  unfold isExcClass
  refine wpAny_bind (L3.here ?_)
  simp only [if_true]
  refine L4.here ?_
  simp only [Bool.not_true, Bool.false_eq_true, if_false]
  refine wpAny_pure ?_
  dsimp only
  rw [List.forIn_nil]
  refine wpAny_pure (wpAny_bind (L5.here ?_))
  rw [List.forIn_cons]
  refine wpAny_bind (wpAny_bind (wpAny_bind (L6.here ?_)))
  cases b with
  | true => simp only [if_true]; exact wpAny_pure (wpAny_pure (wpAny_pure hq))
  | false => simp only [Bool.false_eq_true, if_false]; exact wpAny_pure (by dsimp only; rw [List.forIn_nil]; exact wpAny_pure (wpAny_pure hq))
end
end Mine
end

section
set_option Elab.async false
set_option maxRecDepth 100000
namespace Mine
open PySem
inductive D where
  | none
  | bool (b : Bool)
  | int (i : Int)
  | str (x : Str)
  | tup (ds : List D)
  | list (ds : List D)
  | range (lo hi st : Int)
  | exc (C : Addr)
  | glob (v : Value)
inductive T where
  | sh (d : D)
  | ow (m : Bool) (d : D)
noncomputable def T.val : T → D
  | .sh d => d
  | .ow _ d => d
noncomputable def NotDict (o : Obj) : Prop := ∀ es n, o.data ≠ .dict es n
theorem NotDict.seq {o : Obj} {vs : Array Value} {n : Nat} (h : o.data = .seq vs n) : NotDict o := fun es m q => by rw [h] at q; cases q
theorem NotDict.fields {o : Obj} {vs : Array Value} (h : o.data = .fields vs) : NotDict o := fun es m q => by rw [h] at q; cases q
noncomputable def Kp (h h' : Heap) : Prop := ∀ b o, h.get? b = some o → ∃ sl, h'.get? b = some { o with slots := sl } ∧ (NotDict o → sl = o.slots)
theorem Kp.trans {h₁ h₂ h₃ : Heap} (x : Kp h₁ h₂) (y : Kp h₂ h₃) : Kp h₁ h₃ := fun b o e => by
  obtain ⟨sl, e₁, q₁⟩ := x b o e
  obtain ⟨sl', e₂, q₂⟩ := y b _ e₁
  exact ⟨sl', e₂, fun hc => (q₂ hc).trans (q₁ hc)⟩
theorem Kp.of_keeps {h h' : Heap} (k : ∀ b o, h.get? b = some o → h'.get? b = some o) : Kp h h' := fun b o e => ⟨o.slots, k b o e, fun _ => rfl⟩
theorem Kp.exact {h h' : Heap} (x : Kp h h') {b : Addr} {o : Obj} (e : h.get? b = some o) (hc : NotDict o) : h'.get? b = some o := by
  obtain ⟨sl, e₁, q⟩ := x b o e
  rw [q hc] at e₁; exact e₁
theorem Kp.dom {h h' : Heap} (x : Kp h h') {b : Addr} {o : Obj} (e : h.get? b = some o) : ∃ o', h'.get? b = some o' := let ⟨_, e₁, _⟩ := x b o e; ⟨_, e₁⟩
theorem Kp.ns {h h' : Heap} (x : Kp h h') {a : Addr} {m : Str → Option Value} (hn : h.Ns a m) : h'.Ns a m := by
  obtain ⟨o, es, ep, ho, hd, r⟩ := hn
  obtain ⟨sl, e₁, _⟩ := x a o ho
  exact ⟨_, es, ep, e₁, hd, r⟩
theorem Kp.cell {h h' : Heap} (x : Kp h h') {c : Addr} {v : Option Value} (hn : h.IsCell c v) : h'.IsCell c v := by
  obtain ⟨o, ho, hd⟩ := hn
  obtain ⟨sl, e₁, _⟩ := x c o ho
  exact ⟨_, e₁, hd⟩
theorem Kp.none {h h' : Heap} (x : Kp h h') {b : Addr} (e : h'.get? b = none) : h.get? b = none := by
  cases q : h.get? b with
  | none => rfl
  | some o => obtain ⟨_, e₁, _⟩ := x b o q; rw [e] at e₁; cases e₁
noncomputable def Imm (o : Obj) : Prop := (o.cls = .type "tuple" ∧ ∃ vs n, o.data = .seq vs n) ∨ ∃ vs, o.data = .fields vs
mutual
inductive RV (S : Addr → Prop) (h : Heap) : Value → D → Prop
  | none : RV S h .none .none
  | bool (b : Bool) : RV S h (.bool b) (.bool b)
  | int (i : Int) (t : Tok) : RV S h (.int i t) (.int i)
  | str (x : Str) (t : Tok) : RV S h (.str x t) (.str x)
  | tup {a : Addr} {o : Obj} {vs : Array Value} {n : Nat} {ds : List D} : h.get? a = some o → o.cls = .type "tuple" → o.data = .seq vs n → RVs S h vs.toList ds → RV S h (.ref a) (.tup ds)
  | list {a : Addr} {o : Obj} {vs : Array Value} {n : Nat} {ds : List D} : S a → h.get? a = some o → o.cls = .type "list" → o.data = .seq vs n → RVs S h vs.toList ds → RV S h (.ref a) (.list ds)
  | range {a : Addr} {lo hi st : Int} {t u v : Tok} : IsRange h a lo hi st t u v → RV S h (.ref a) (.range lo hi st)
  | exc {a : Addr} {o : Obj} {vs : Array Value} {C : Addr} : h.get? a = some o → o.cls = .ref C → o.dict = none → o.data = .fields vs → vs[2]? = some .none → RV S h (.ref a) (.exc C)
  | glob (v : Value) : (∀ a, v = .ref a → ∃ o, h.get? a = some o) → RV S h v (.glob v)
inductive RVs (S : Addr → Prop) (h : Heap) : List Value → List D → Prop
  | nil : RVs S h [] []
  | cons {v : Value} {d : D} {vs : List Value} {ds : List D} : RV S h v d → RVs S h vs ds → RVs S h (v :: vs) (d :: ds)
end
structure Ext (S : Addr → Prop) (h : Heap) (S' : Addr → Prop) (h' : Heap) : Prop where
  sub : ∀ b, S b → S' b
  keep : ∀ b o, h.get? b = some o → (S b ∨ Imm o) → ∃ sl, h'.get? b = some { o with slots := sl } ∧ (NotDict o → sl = o.slots)
  dom : ∀ b o, h.get? b = some o → ∃ o', h'.get? b = some o'
theorem Ext.exact {S : Addr → Prop} {h : Heap} {S' : Addr → Prop} {h' : Heap} (x : Ext S h S' h') {b : Addr} {o : Obj} (e : h.get? b = some o) (q : S b ∨ Imm o) (hn : NotDict o) : h'.get? b = some o := by
  obtain ⟨sl, e₁, k⟩ := x.keep b o e q
  rw [k hn] at e₁; exact e₁
theorem Ext.refl (S : Addr → Prop) (h : Heap) : Ext S h S h := ⟨fun _ x => x, fun _ o e _ => ⟨o.slots, e, fun _ => rfl⟩, fun _ o e => ⟨o, e⟩⟩
theorem Ext.trans {S₁ S₂ S₃ : Addr → Prop} {h₁ h₂ h₃ : Heap} (x : Ext S₁ h₁ S₂ h₂) (y : Ext S₂ h₂ S₃ h₃) : Ext S₁ h₁ S₃ h₃ :=
  ⟨fun b q => y.sub b (x.sub b q), fun b o e q => by
    obtain ⟨sl, e₁, k₁⟩ := x.keep b o e q
    obtain ⟨sl', e₂, k₂⟩ := y.keep b _ e₁ (q.imp (x.sub b) id)
    exact ⟨sl', e₂, fun hn => (k₂ hn).trans (k₁ hn)⟩, fun b o e => let ⟨o', e'⟩ := x.dom b o e; y.dom b o' e'⟩
theorem Ext.none {S S' : Addr → Prop} {h h' : Heap} (x : Ext S h S' h') {b : Addr} (e : h'.get? b = none) : h.get? b = none := by
  cases q : h.get? b with
  | none => rfl
  | some o => obtain ⟨_, e₁⟩ := x.dom b o q; rw [e] at e₁; cases e₁
structure Carry (S : Addr → Prop) (h : Heap) (S' : Addr → Prop) (h' : Heap) : Prop where
  tup : ∀ {a : Addr} {o : Obj} {vs : Array Value} {n : Nat}, h.get? a = some o → o.cls = .type "tuple" → o.data = .seq vs n → h'.get? a = some o
  list : ∀ {a : Addr} {o : Obj} {vs : Array Value} {n : Nat}, S a → h.get? a = some o → o.cls = .type "list" → o.data = .seq vs n → S' a ∧ h'.get? a = some o
  range : ∀ {a : Addr} {lo hi st : Int} {t u v : Tok}, IsRange h a lo hi st t u v → IsRange h' a lo hi st t u v
  exc : ∀ {a : Addr} {o : Obj} {vs : Array Value} {C : Addr}, h.get? a = some o → o.cls = .ref C → o.dict = none → o.data = .fields vs → vs[2]? = some .none → RV S' h' (.ref a) (.exc C)
  dom : ∀ a o, h.get? a = some o → ∃ o', h'.get? a = some o'
section
variable {S S' : Addr → Prop} {h h' : Heap}
theorem RV.map (x : Carry S h S' h') {v : Value} {d : D} (q : RV S h v d) : RV S' h' v d :=
  RV.rec (motive_1 := fun v d _ => RV S' h' v d) (motive_2 := fun vs ds _ => RVs S' h' vs ds) .none .bool .int .str (fun e hc hd _ r => .tup (x.tup e hc hd) hc hd r) (fun hs e hc hd _ r => .list (x.list hs e hc hd).1 (x.list hs e hc hd).2 hc hd r) (fun e => .range (x.range e)) (fun e hc hn hd r => x.exc e hc hn hd r) (fun v hv => .glob v fun a e => let ⟨o, e'⟩ := hv a e; x.dom a o e') .nil (fun _ _ a b => .cons a b) q
theorem RVs.map (x : Carry S h S' h') {vs : List Value} {ds : List D} (q : RVs S h vs ds) : RVs S' h' vs ds :=
  RVs.rec (motive_1 := fun v d _ => RV S' h' v d) (motive_2 := fun vs ds _ => RVs S' h' vs ds) .none .bool .int .str (fun e hc hd _ r => .tup (x.tup e hc hd) hc hd r) (fun hs e hc hd _ r => .list (x.list hs e hc hd).1 (x.list hs e hc hd).2 hc hd r) (fun e => .range (x.range e)) (fun e hc hn hd r => x.exc e hc hn hd r) (fun v hv => .glob v fun a e => let ⟨o, e'⟩ := hv a e; x.dom a o e') .nil (fun _ _ a b => .cons a b) q
theorem Ext.carry (x : Ext S h S' h') : Carry S h S' h' where
  tup := fun e hc hd => x.exact e (.inr (.inl ⟨hc, _, _, hd⟩)) (.seq hd)
  list := fun hs e hc hd => ⟨x.sub _ hs, x.exact e (.inl hs) (.seq hd)⟩
  range := fun e => x.exact e (.inr (.inr ⟨_, rfl⟩)) (.fields rfl)
  exc := fun e hc hn hd r => .exc (x.exact e (.inr (.inr ⟨_, hd⟩)) (.fields hd)) hc hn hd r
  dom := x.dom
theorem RV.ext (x : Ext S h S' h') {v : Value} {d : D} (q : RV S h v d) : RV S' h' v d := q.map x.carry
theorem RVs.ext (x : Ext S h S' h') {vs : List Value} {ds : List D} (q : RVs S h vs ds) : RVs S' h' vs ds := q.map x.carry
end
theorem Ext.of_keeps {S : Addr → Prop} {h h' : Heap} (k : ∀ b o, h.get? b = some o → h'.get? b = some o) : Ext S h S h' := ⟨fun _ q => q, fun b o e _ => ⟨o.slots, k b o e, fun _ => rfl⟩, fun b o e => ⟨o, k b o e⟩⟩
theorem Ext.of_kp {S : Addr → Prop} {h h' : Heap} (k : Kp h h') : Ext S h S h' := ⟨fun _ q => q, fun b o e _ => k b o e, fun _ _ e => k.dom e⟩
theorem Ext.grow {S S' : Addr → Prop} {h : Heap} (q : ∀ b, S b → S' b) : Ext S h S' h := ⟨q, fun _ o e _ => ⟨o.slots, e, fun _ => rfl⟩, fun _ o e => ⟨o, e⟩⟩
theorem RV.live {S : Addr → Prop} {h : Heap} {v : Value} {d : D} (q : RV S h v d) : ∀ a, v = .ref a → ∃ o, h.get? a = some o := by
  intro a e
  cases q with
  | tup q _ _ _ => cases e; exact ⟨_, q⟩
  | list _ q _ _ _ => cases e; exact ⟨_, q⟩
  | range q => cases e; exact ⟨_, q⟩
  | exc q _ _ _ _ => cases e; exact ⟨_, q⟩
  | glob v q => exact q a e
  | _ => cases e
theorem RVs.length {S : Addr → Prop} {h : Heap} : ∀ {vs : List Value} {ds : List D}, RVs S h vs ds → vs.length = ds.length
  | _, _, .nil => rfl
  | _, _, .cons _ r => congrArg (· + 1) (RVs.length r)
theorem RVs.append {S : Addr → Prop} {h : Heap} {ws : List Value} {es : List D} (k : RVs S h ws es) : ∀ {vs : List Value} {ds : List D}, RVs S h vs ds → RVs S h (vs ++ ws) (ds ++ es)
  | _, _, .nil => k
  | _, _, .cons q r => .cons q (RVs.append k r)
theorem RVs.get {S : Addr → Prop} {h : Heap} : ∀ {vs : List Value} {ds : List D}, RVs S h vs ds → ∀ {k : Nat} {d : D}, ds[k]? = some d → ∃ v, vs[k]? = some v ∧ RV S h v d
  | _, _, .cons (v := v) q r, 0, d, e => by cases e; exact ⟨v, rfl, q⟩
  | _, _, .cons q r, k + 1, d, e => by
    obtain ⟨v, e', q'⟩ := RVs.get r (k := k) (d := d) (by simpa using e)
    exact ⟨v, by simpa using e', q'⟩
theorem RVs.drop {S : Addr → Prop} {h : Heap} : ∀ {vs : List Value} {ds : List D}, RVs S h vs ds → ∀ (k : Nat), RVs S h (vs.drop k) (ds.drop k)
  | _, _, r, 0 => r
  | _, _, .nil, _ + 1 => .nil
  | _, _, .cons _ r, k + 1 => RVs.drop r k
theorem RVs.take {S : Addr → Prop} {h : Heap} : ∀ {vs : List Value} {ds : List D}, RVs S h vs ds → ∀ (k : Nat), RVs S h (vs.take k) (ds.take k)
  | _, _, _, 0 => .nil
  | _, _, .nil, _ + 1 => .nil
  | _, _, .cons q r, k + 1 => .cons q (RVs.take r k)
theorem RVs.eraseIdx {S : Addr → Prop} {h : Heap} : ∀ {vs : List Value} {ds : List D}, RVs S h vs ds → ∀ (i : Nat), RVs S h (vs.eraseIdx i) (ds.eraseIdx i)
  | _, _, .nil, _ => .nil
  | _, _, .cons _ r, 0 => r
  | _, _, .cons q r, i + 1 => .cons q (RVs.eraseIdx r i)
theorem RVs.mem {S : Addr → Prop} {h : Heap} : ∀ {vs : List Value} {ds : List D}, RVs S h vs ds → ∀ {v : Value}, v ∈ vs → ∃ d, d ∈ ds ∧ RV S h v d
  | _, _, .cons q r, _, .head _ => ⟨_, .head _, q⟩
  | _, _, .cons _ r, _, .tail _ m => let ⟨d, hd, q⟩ := RVs.mem r m; ⟨d, .tail _ hd, q⟩
noncomputable def Var (env : Env) (h : Heap) (x : Str) (v : Value) : Prop :=
  (env.kindOf x = some .local ∧ ∃ m, h.Ns env.locals m ∧ m x = some v) ∨
  ((env.kindOf x = some .cell ∨ env.kindOf x = some .free) ∧ ∃ c, env.cells.lookup x = some c ∧ h.IsCell c (some v))
theorem Var.kp {env : Env} {h h' : Heap} (k : Kp h h') {x : Str} {v : Value} (q : Var env h x v) : Var env h' x v := by
  rcases q with ⟨a, m, b, c⟩ | ⟨a, c, b, d⟩
  · exact .inl ⟨a, m, k.ns b, c⟩
  · exact .inr ⟨a, c, b, k.cell d⟩
theorem IsCell.inj {h : Heap} {c : Addr} {v v' : Option Value} (a : h.IsCell c v) (b : h.IsCell c v') : v = v' := by
  obtain ⟨o, ho, hd⟩ := a
  obtain ⟨o', ho', hd'⟩ := b
  rw [ho] at ho'; cases ho'
  rw [hd] at hd'; cases hd'; rfl
theorem Var.inj {env : Env} {h : Heap} {x : Str} {v v' : Value} (a : Var env h x v) (b : Var env h x v') : v = v' := by
  rcases a with ⟨k, m, n, e⟩ | ⟨k, c, n, e⟩ <;> rcases b with ⟨k', m', n', e'⟩ | ⟨k', c', n', e'⟩
  · have := n.agree n' x; rw [e, e'] at this; injection this
  · rw [k] at k'; rcases k' with q | q <;> cases q
  · rw [k'] at k; rcases k with q | q <;> cases q
  · rw [n] at n'; cases n'; have := IsCell.inj e e'; injection this
noncomputable def OwnAt (S : Addr → Prop) (h : Heap) (a : Addr) : D → Prop
  | .list ds => ∃ vs n, h.get? a = some { cls := .type "list", data := .seq vs n } ∧ RVs S h vs.toList ds
  | _ => False
theorem OwnAt.ext {S S' : Addr → Prop} {h h' : Heap} {a : Addr} {d : D} (x : Ext S h S' h') (k : ∀ o, h.get? a = some o → h'.get? a = some o) (q : OwnAt S h a d) : OwnAt S' h' a d := by
  unfold OwnAt at q ⊢
  split at q
  · obtain ⟨vs, n, e, r⟩ := q; exact ⟨vs, n, k _ e, r.ext x⟩
  · exact q
theorem OwnAt.cls {S : Addr → Prop} {h : Heap} {a : Addr} {d : D} (q : OwnAt S h a d) : ∃ o, h.get? a = some o ∧ o.cls = .type "list" ∧ (∃ vs n, o.data = .seq vs n) := by
  unfold OwnAt at q
  split at q
  · obtain ⟨vs, n, e, _⟩ := q; exact ⟨_, e, rfl, vs, n, rfl⟩
  · exact q.elim
noncomputable def TVar (h₀ : Heap) (S : Addr → Prop) (h : Heap) (v : Value) : T → Prop
  | .sh d => RV S h v d
  | .ow m d => ∃ a, v = .ref a ∧ ¬ S a ∧ OwnAt S h a d ∧ (m = true → h₀.get? a = none)
noncomputable def FF (B h : Heap) (fs : List Env) : Prop := ∀ env ∈ fs, env.scope.kind ≠ .module ∧ ∃ L o, env.frame = some L ∧ B.get? L = none ∧ h.get? L = some o ∧ ∃ es n, o.data = .dict es n
theorem FF.kp {B h h' : Heap} {fs : List Env} (k : Kp h h') (x : FF B h fs) : FF B h' fs := fun env he => by
  obtain ⟨a, L, o, b, c, d, e⟩ := x env he
  obtain ⟨sl, e₁, _⟩ := k L o d
  exact ⟨a, L, _, b, c, e₁, e⟩
theorem FF.fun {B h : Heap} : ∀ {fs : List Env}, FF B h fs → h.FunFrames B fs
  | [], _ => trivial
  | env :: fs, x => by
    obtain ⟨a, L, o, b, c, d, es, n, f⟩ := x env (.head _)
    exact ⟨a, ⟨L, o, b, c, d, fun vs q => by rw [f] at q; cases q⟩, FF.fun fun e he => x e (.tail _ he)⟩
structure Gd where
  prog : Program
  w : World
  B : Heap
  mg : Str → Option Value
  mb : Str → Option Value
  K : W.Frag
  quiet : Bool := true
structure Gd.Ok (G : Gd) : Prop where
  g : G.B.Ns mainGlobals G.mg
  b : G.B.Ns builtinsNs G.mb
  nolimit : G.B.NoLimit
  K : G.K.In G.B
abbrev Gd.M (G : Gd) : Model := model G.prog G.w
structure Cx where
  A : Around
  env : Env
  fs : List Env
  h₀ : Heap
  P : Addr → Prop
noncomputable def varNames (sc : Scope) : List Str := (sc.names.filter fun x => x.2 == .local || x.2 == .cell || x.2 == .free).map (·.1)
abbrev AEnv := List (Option T)
noncomputable def isDirty (x : Str) : Bool := x == "_law_e"
structure Rel (G : Gd) (cx : Cx) (sc : Scope) (ρ : AEnv) (S : Addr → Prop) (h : Heap) : Prop where
  base : G.B.StaysIn h
  keep : Kp cx.h₀ h
  ff : FF G.B h cx.fs
  ns : ∃ m, h.Ns cx.env.locals m
  cells : ∀ x c, cx.env.cells.lookup x = some c → ∃ v, h.IsCell c v
  sdom : ∀ b, S b → ∃ o, h.get? b = some o
  sok : ∀ b, S b → cx.P b ∨ cx.h₀.get? b = none
  sloc : ¬ S cx.env.locals
  scell : ∀ x c, cx.env.cells.lookup x = some c → ¬ S c
  live : ∀ x a, isDirty x = false → Var cx.env h x (.ref a) → ∃ o, h.get? a = some o
  clean : ∀ (i : Nat) (x : Str) (m : Bool) (d : D), (varNames sc)[i]? = some x → ρ[i]? = some (some (.ow m d)) → isDirty x = false
  hok : ∀ v, cx.A.handled = some v → ∃ C, RV S h v (.exc C)
  vars : ∀ (i : Nat) (x : Str) (t : T), (varNames sc)[i]? = some x → ρ[i]? = some (some t) → ∃ v, Var cx.env h x v ∧ TVar cx.h₀ S h v t
  inj : ∀ (i j : Nat) (x y : Str) (m m' : Bool) (d d' : D) (v : Value), (varNames sc)[i]? = some x → (varNames sc)[j]? = some y → ρ[i]? = some (some (.ow m d)) → ρ[j]? = some (some (.ow m' d')) → Var cx.env h x v → Var cx.env h y v → i = j
noncomputable def VarSame (env : Env) (h h' : Heap) : Prop := ∀ x v, Var env h x v → Var env h' x v
theorem VarSame.refl (env : Env) (h : Heap) : VarSame env h h := fun _ _ q => q
theorem VarSame.trans {env : Env} {h₁ h₂ h₃ : Heap} (a : VarSame env h₁ h₂) (b : VarSame env h₂ h₃) : VarSame env h₁ h₃ := fun x v q => b x v (a x v q)
section
variable {G : Gd} {cx : Cx} {sc : Scope} {ρ : AEnv} {S S' : Addr → Prop} {h h' : Heap}
theorem Rel.ext_kp (_ : Rel G cx sc ρ S h) (k : Kp h h') : Ext S h S h' := Ext.of_kp k
theorem TVar.ext {h₀ : Heap} {v : Value} {t : T} (x : Ext S h S h') (k : ∀ a o, h.get? a = some o → NotDict o → h'.get? a = some o) (q : TVar h₀ S h v t) : TVar h₀ S h' v t := by
  cases t with
  | sh d => exact RV.ext x q
  | ow m d =>
    obtain ⟨a, e, ns, ow, n⟩ := q
    obtain ⟨o, ho, hc, vs, m, hd⟩ := ow.cls
    exact ⟨a, e, ns, ow.ext x fun o' e' => k _ _ e' (by rw [ho] at e'; cases e'; exact .seq hd), n⟩
theorem Var.of_kp {env : Env} (k : Kp h h') (ns : ∃ m, h.Ns env.locals m) (cl : ∀ x c, env.cells.lookup x = some c → ∃ v, h.IsCell c v) {x : Str} {v : Value} (q : Var env h' x v) : Var env h x v := by
  rcases q with ⟨a, m, b, c⟩ | ⟨a, c, b, d⟩
  · obtain ⟨m₀, n₀⟩ := ns
    exact .inl ⟨a, m₀, n₀, by rw [(k.ns n₀).agree b x]; exact c⟩
  · obtain ⟨v₀, i₀⟩ := cl x c b
    exact .inr ⟨a, c, b, by rw [IsCell.inj d (k.cell i₀)]; exact i₀⟩
theorem Rel.kp (r : Rel G cx sc ρ S h) (k : Kp h h') (hb : G.B.StaysIn h') : Rel G cx sc ρ S h' where
  base := hb
  keep := r.keep.trans k
  ff := r.ff.kp k
  ns := let ⟨m, n⟩ := r.ns; ⟨m, k.ns n⟩
  cells := fun x c e => let ⟨v, n⟩ := r.cells x c e; ⟨v, k.cell n⟩
  sdom := fun b q => let ⟨_, e⟩ := r.sdom b q; k.dom e
  sok := r.sok
  sloc := r.sloc
  scell := r.scell
  live := fun x a hd q => let ⟨_, e⟩ := r.live x a hd (Var.of_kp k r.ns r.cells q); k.dom e
  clean := r.clean
  hok := fun v q => let ⟨C, e⟩ := r.hok v q; ⟨C, e.ext (r.ext_kp k)⟩
  vars := fun i x t hx ht => by
    obtain ⟨v, hv, tv⟩ := r.vars i x t hx ht
    exact ⟨v, hv.kp k, tv.ext (r.ext_kp k) fun a o e hc => k.exact e hc⟩
  inj := fun i j x y m m' d d' v hx hy hi hj a b => r.inj i j x y m m' d d' v hx hy hi hj (Var.of_kp k r.ns r.cells a) (Var.of_kp k r.ns r.cells b)
theorem Rel.same (r : Rel G cx sc ρ S h) (k : Kp h h') : VarSame cx.env h h' := fun _ _ q => q.kp k
theorem Rel.keeps (r : Rel G cx sc ρ S h) (k : ∀ b o, h.get? b = some o → h'.get? b = some o) : Rel G cx sc ρ S h' := r.kp (.of_keeps k) fun b o e => k b o (r.base b o e)
theorem Rel.notCell (r : Rel G cx sc ρ S h) {a : Addr} {o : Obj} (e : h.get? a = some o) (hd : ∀ v, o.data ≠ .cell v) : ∀ x c, cx.env.cells.lookup x = some c → c ≠ a := by
  rintro x c q rfl
  obtain ⟨v, o', e', hd'⟩ := r.cells x c q
  rw [e] at e'; cases e'; exact hd v hd'
theorem Rel.grow (r : Rel G cx sc ρ S h) {a : Addr} {o : Obj} (e : h.get? a = some o) (hn : cx.h₀.get? a = none) (hl : a ≠ cx.env.locals) (hcl : ∀ x c, cx.env.cells.lookup x = some c → c ≠ a) (hv : ∀ x, isDirty x = false → ¬ Var cx.env h x (.ref a)) : Rel G cx sc ρ (fun b => S b ∨ b = a) h where
  base := r.base
  keep := r.keep
  ff := r.ff
  ns := r.ns
  cells := r.cells
  sdom := fun b q => q.elim (r.sdom b) fun q => ⟨o, by rw [q]; exact e⟩
  sok := fun b q => q.elim (r.sok b) fun q => .inr (by rw [q]; exact hn)
  sloc := fun q => q.elim r.sloc fun q => hl q.symm
  scell := fun x c e q => q.elim (r.scell x c e) (hcl x c e)
  live := r.live
  clean := r.clean
  hok := fun v q => let ⟨C, e⟩ := r.hok v q; ⟨C, e.ext (Ext.grow fun _ q => .inl q)⟩
  vars := fun i x t hx ht => by
    obtain ⟨v, hv', tv⟩ := r.vars i x t hx ht
    refine ⟨v, hv', ?_⟩
    cases t with
    | sh d => exact RV.ext (Ext.grow fun _ q => .inl q) tv
    | ow m d =>
      obtain ⟨b, rfl, ns, ow, n⟩ := tv
      exact ⟨b, rfl, fun q => q.elim ns fun q => hv x (r.clean i x m d hx ht) (q ▸ hv'), ow.ext (Ext.grow fun _ q => .inl q) (fun _ e => e), n⟩
  inj := r.inj
end
inductive Res (α : Type) where
  | ok (a : α) (ρ : AEnv)
  | exc (C : Addr) (ρ : AEnv)
  | stuck
noncomputable def Res.bind {α β : Type} (r : Res α) (g : α → AEnv → Res β) : Res β := match r with
  | .ok a ρ => g a ρ
  | .exc C ρ => .exc C ρ
  | .stuck => .stuck
noncomputable def Fly (h h' : Heap) (e C : Addr) : Prop := h.get? e = none ∧ ∃ oe vs, h'.get? e = some oe ∧ oe.cls = .ref C ∧ oe.dict = none ∧ oe.data = .fields vs ∧ vs[2]? = some .none ∧
  (vs[1]? = some .none ∨ ∃ T oT ts, vs[1]? = some (.ref T) ∧ T ≠ e ∧ h.get? T = none ∧ h'.get? T = some oT ∧ oT.cls = .type "traceback" ∧ oT.data = .fields ts ∧ 3 < ts.size)
theorem Fly.back {S S' : Addr → Prop} {h₀ h h' : Heap} {e C : Addr} (x : Ext S h₀ S' h) (q : Fly h h' e C) : Fly h₀ h' e C := by
  obtain ⟨n, oe, vs, a, b, b', c, d, k⟩ := q
  refine ⟨x.none n, oe, vs, a, b, b', c, d, k.imp id ?_⟩
  rintro ⟨T, oT, ts, k1, k2, k3, k4⟩
  exact ⟨T, oT, ts, k1, k2, x.none k3, k4⟩
noncomputable def Out (G : Gd) (cx : Cx) (sc : Scope) (same : Bool) {α β : Type} (S : Addr → Prop) (s : Shared) (J : (Addr → Prop) → Heap → α → β → Prop) (Q : α → Shared → Prop) (E : Value → Shared → Prop) : Res β → Prop
  | .ok b ρ => ∀ a h' tk S', Rel G cx sc ρ S' h' → J S' h' a b → Ext S s.heap S' h' → (same = true → VarSame cx.env s.heap h') → Q a { s with heap := h', toks := tk }
  | .exc C ρ => ∀ e h' tk S', Rel G cx sc ρ S' h' → Fly s.heap h' e C → Ext S s.heap S' h' → E (.ref e) { s with heap := h', toks := tk }
  | .stuck => False
noncomputable def Does (G : Gd) (cx : Cx) (sc : Scope) (same : Bool) {α β : Type} (m : Sem α) (S : Addr → Prop) (s : Shared) (J : (Addr → Prop) → Heap → α → β → Prop) (r : Res β) : Prop :=
  ∀ Q E, Out G cx sc same S s J Q E r → wpAny G.M cx.A m Q E s
section
variable {G : Gd} {cx : Cx} {sc : Scope} {same : Bool} {α β γ δ : Type} {S : Addr → Prop} {s : Shared}
theorem Does.bind {m : Sem α} {k : α → Sem γ} {J : (Addr → Prop) → Heap → α → β → Prop} {J' : (Addr → Prop) → Heap → γ → δ → Prop} {r : Res β} {g : β → AEnv → Res δ}
    (h1 : Does G cx sc same m S s J r)
    (h2 : ∀ b ρ' a h' tk S', r = .ok b ρ' → Rel G cx sc ρ' S' h' → J S' h' a b → Ext S s.heap S' h' → (same = true → VarSame cx.env s.heap h') → Does G cx sc same (k a) S' { s with heap := h', toks := tk } J' (g b ρ')) :
    Does G cx sc same (m >>= k) S s J' (r.bind g) := by
  intro Q E out
  refine wpAny_bind (h1 _ _ ?_)
  cases r with
  | stuck => exact out
  | exc C ρ => intro e h' tk S' rel fly x; exact out e h' tk S' rel fly x
  | ok b ρ =>
    intro a h' tk S' rel j x v
    refine h2 b ρ a h' tk S' rfl rel j x v _ _ ?_
    show Out G cx sc same S' _ J' Q E (g b ρ)
    cases hg : g b ρ with
    | stuck => rw [Res.bind, hg] at out; exact out
    | exc C ρ' =>
      rw [Res.bind, hg] at out
      intro e h₂ tk₂ S₂ rel₂ fly₂ x₂
      exact out e h₂ tk₂ S₂ rel₂ (fly₂.back x) (x.trans x₂)
    | ok c ρ' =>
      rw [Res.bind, hg] at out
      intro a₂ h₂ tk₂ S₂ rel₂ j₂ x₂ v₂
      exact out a₂ h₂ tk₂ S₂ rel₂ j₂ (x.trans x₂) fun q => (v q).trans (v₂ q)
theorem Does.pure {a : α} {b : β} {ρ : AEnv} {J : (Addr → Prop) → Heap → α → β → Prop} (rel : Rel G cx sc ρ S s.heap) (j : J S s.heap a b) : Does G cx sc same (pure a) S s J (.ok b ρ) :=
  fun _ _ out => wpAny_pure (out a s.heap s.toks S rel j (Ext.refl ..) fun _ => VarSame.refl _ _)
theorem Does.loose {m : Sem α} {J : (Addr → Prop) → Heap → α → β → Prop} {r : Res β} (h : Does G cx sc true m S s J r) : Does G cx sc same m S s J r := by
  intro Q E out
  refine h Q E ?_
  cases r with
  | stuck => exact out
  | exc C ρ => exact out
  | ok b ρ => intro a h' tk S' rel j x v; exact out a h' tk S' rel j x fun _ => v rfl
theorem Does.standAt {k : Sem α} {pos : Pos} {J : (Addr → Prop) → Heap → α → β → Prop} {r : Res β} (h : Does G cx sc same k S s J r) : Does G cx sc same (do standAt pos; k) S s J r :=
  fun Q E out => wpAny_bind (wpAny_standAt (h Q E out))
theorem Does.holding {k : Sem α} {vs : List Value} {J : (Addr → Prop) → Heap → α → β → Prop} {r : Res β} (h : Does G cx sc same k S s J r) : Does G cx sc same (holding vs k) S s J r :=
  fun Q E out => wpAny_holding (h Q E out)
end
noncomputable def Fresh (cx : Cx) (S : Addr → Prop) (h : Heap) (v : Value) (d : D) : Prop := ∃ a, v = .ref a ∧ ¬ S a ∧ OwnAt S h a d ∧ cx.h₀.get? a = none ∧ ∀ x, isDirty x = false → ¬ Var cx.env h x (.ref a)
noncomputable def TTmp (cx : Cx) (S : Addr → Prop) (h : Heap) (v : Value) : T → Prop
  | .sh d => RV S h v d
  | .ow _ d => Fresh cx S h v d
theorem Rel.drop {G : Gd} {cx : Cx} {sc : Scope} {ρ : AEnv} {S : Addr → Prop} {h : Heap} {v : Value} {t : T} (r : Rel G cx sc ρ S h) (q : TTmp cx S h v t) :
    ∃ S', Rel G cx sc ρ S' h ∧ RV S' h v t.val ∧ Ext S h S' h := by
  cases t with
  | sh d => exact ⟨S, r, q, .refl ..⟩
  | ow m d =>
    obtain ⟨a, rfl, ns, ow, n, nv⟩ := q
    obtain ⟨o, ho, hc, vs, k, hd⟩ := ow.cls
    have hl : a ≠ cx.env.locals := by
      rintro rfl
      obtain ⟨m', o', es, ep, e', hd', _⟩ := r.ns
      rw [ho] at e'; cases e'; rw [hd] at hd'; cases hd'
    refine ⟨_, r.grow ho n hl (r.notCell ho (by rw [hd]; intro v q; cases q)) nv, ?_, Ext.grow fun _ q => .inl q⟩
    unfold OwnAt at ow
    split at ow
    · obtain ⟨vs', n', e', rv⟩ := ow
      exact .list (.inr rfl) e' rfl rfl (rv.ext (Ext.grow fun _ q => .inl q))
    · exact ow.elim
noncomputable def Room (A : Around) (k : Nat) : Prop := A.depth + k ≤ 900 ∧ A.units + 8 * k ≤ 9000
theorem Room.mono {A : Around} {k k' : Nat} (h : Room A k) (hk : k' ≤ k) : Room A k' := ⟨by have := h.1; omega, by have := h.2; omega⟩
structure CxOk (G : Gd) (cx : Cx) (sc : Scope) (k : Nat) : Prop where
  hsc : cx.env.scope = sc
  hk : sc.kind = .function
  hg : cx.env.globals = mainGlobals
  hb : cx.env.builtins = builtinsNs
  fr : cx.A.frames = some cx.fs
  top : ∃ env outer, cx.fs = env :: outer ∧ cx.env.frame = env.frame
  hd : G.quiet = true → cx.A.handled = none
  room : Room cx.A k
  nodup : (varNames sc).Nodup
theorem CxOk.mono {G : Gd} {cx : Cx} {sc : Scope} {k k' : Nat} (h : CxOk G cx sc k) (hk : k' ≤ k) : CxOk G cx sc k' := { h with room := h.room.mono hk }
noncomputable def Sim (G : Gd) (k : Nat) (sc : Scope) (e : Expr) (f : AEnv → Res T) : Prop :=
  ∀ cx, CxOk G cx sc k → ∀ ρ S s, Rel G cx sc ρ S s.heap → Does G cx sc true (eval e cx.env) S s (fun S' h' v t => TTmp cx S' h' v t) (f ρ)
end Mine
end

section
set_option Elab.async false
set_option maxRecDepth 100000
namespace Mine
open PySem
inductive RB (S : Addr → Prop) (h : Heap) : Value → D → Prop
  | of {v : Value} {d : D} : RV S h v d → RB S h v d
  | own {a : Addr} {d : D} : OwnAt S h a d → RB S h (.ref a) d
theorem RB.list {S : Addr → Prop} {h : Heap} {v : Value} {ds : List D} (q : RB S h v (.list ds)) : ∃ a o vs n, v = .ref a ∧ h.get? a = some o ∧ o.cls = .type "list" ∧ o.data = .seq vs n ∧ RVs S h vs.toList ds := by
  cases q with
  | of q => cases q with | list _ e hc hd r => exact ⟨_, _, _, _, rfl, e, hc, hd, r⟩
  | own q => obtain ⟨vs, n, e, r⟩ := q; exact ⟨_, _, _, _, rfl, e, rfl, rfl, r⟩
theorem RB.rv {S : Addr → Prop} {h : Heap} {v : Value} {d : D} (q : RB S h v d) (hd : ∀ ds, d ≠ .list ds) : RV S h v d := by
  cases q with
  | of q => exact q
  | own q =>
    unfold OwnAt at q
    split at q
    · exact absurd rfl (hd _)
    · exact q.elim
theorem RB.any {S : Addr → Prop} {h : Heap} {v : Value} {d : D} (q : RB S h v d) : RV (fun _ => True) h v d := by
  cases q with
  | of q => exact q.ext (Ext.grow fun _ _ => trivial)
  | own q =>
    unfold OwnAt at q
    split at q
    · obtain ⟨vs, n, e, r⟩ := q; exact .list trivial e rfl rfl (r.ext (Ext.grow fun _ _ => trivial))
    · exact q.elim
inductive Bv where
  | val (d : D)
  | var (i : Nat)
noncomputable def Bv.get (ρ : AEnv) : Bv → Option D
  | .val d => some d
  | .var i => match ρ[i]? with
    | some (some t) => some t.val
    | _ => none
noncomputable def BVal (cx : Cx) (sc : Scope) (S : Addr → Prop) (h : Heap) (v : Value) : Bv → Prop
  | .val d => RV S h v d
  | .var i => ∃ x, (varNames sc)[i]? = some x ∧ Var cx.env h x v
section
variable {G : Gd} {cx : Cx} {sc : Scope} {ρ : AEnv} {S S' : Addr → Prop} {h h' : Heap} {v : Value} {b : Bv} {d : D}
theorem BVal.ext (q : BVal cx sc S h v b) (x : Ext S h S' h') (k : VarSame cx.env h h') : BVal cx sc S' h' v b := by
  cases b with
  | val d => exact RV.ext x q
  | var i => obtain ⟨y, hy, hv⟩ := q; exact ⟨y, hy, k y v hv⟩
theorem BVal.rb (q : BVal cx sc S h v b) (r : Rel G cx sc ρ S h) (e : b.get ρ = some d) : RB S h v d := by
  cases b with
  | val d' => cases e; exact .of q
  | var i =>
    obtain ⟨y, hy, hv⟩ := q
    simp only [Bv.get] at e
    split at e
    · rename_i t ht
      cases e
      obtain ⟨w, hw, tv⟩ := r.vars i y t hy ht
      rw [Var.inj hv hw]
      cases t with
      | sh d => exact .of tv
      | ow m d => obtain ⟨a, rfl, _, ow, _⟩ := tv; exact .own ow
    · cases e
theorem sim_load {x : Str} (ok : CxOk G cx sc 0) (hv : Var cx.env h x v) (hn : (x == ("__classdict__" : Str)) = false) {M : Model} {A : Around} {s : Shared} (hs : s.heap = h) {Q : Value → Shared → Prop} {E : Value → Shared → Prop} (hQ : Q v s) :
    wpAny M A (loadName cx.env x) Q E s := by
  subst hs
  have hk : cx.env.scope.kind = .function := by rw [ok.hsc]; exact ok.hk
  rcases hv with ⟨a, m, b, c⟩ | ⟨a, c, b, d⟩
  · exact wpAny_loadName_local hk a b c hQ
  · rcases a with a | a
    · exact wpAny_loadName_cell hk a b d hQ
    · exact wpAny_loadName_free hk a b d hQ hn
end
noncomputable def SimB (G : Gd) (k : Nat) (sc : Scope) (e : Expr) (f : AEnv → Res Bv) : Prop :=
  ∀ cx, CxOk G cx sc k → ∀ ρ S s, Rel G cx sc ρ S s.heap → Does G cx sc true (eval e cx.env) S s (fun S' h' v b => BVal cx sc S' h' v b) (f ρ)
noncomputable def eVal (f : AEnv → Res T) : AEnv → Res Bv := fun ρ => (f ρ).bind fun t ρ' => .ok (.val t.val) ρ'
theorem SimB.of {G : Gd} {k : Nat} {sc : Scope} {e : Expr} {f : AEnv → Res T} (h : Sim G k sc e f) : SimB G k sc e (eVal f) := by
  intro cx ok ρ S s r Q E out
  refine h cx ok ρ S s r Q E ?_
  unfold eVal at out
  cases hf : f ρ with
  | stuck => rw [hf] at out; exact out
  | exc C ρ' => rw [hf] at out; exact out
  | ok t ρ' =>
    rw [hf] at out
    intro v h' tk S' rel j x vs
    obtain ⟨S₂, rel₂, rv, x₂⟩ := rel.drop j
    exact out v h' tk S₂ rel₂ rv (x.trans x₂) vs
noncomputable def eOp (i : Nat) : AEnv → Res Bv := fun ρ => match ρ[i]? with
  | some (some _) => .ok (.var i) ρ
  | _ => .stuck
theorem simB_name {G : Gd} {k : Nat} {sc : Scope} {x : Str} {pos : Pos} {i : Nat} (hx : (varNames sc)[i]? = some x) (hd : (x == ("__debug__" : Str)) = false) (hn : (x == ("__classdict__" : Str)) = false) :
    SimB G k sc (.Name x pos) (eOp i) := by
  intro cx ok ρ S s r Q E out
  unfold eOp at out
  split at out
  · rename_i t ht
    obtain ⟨v, hv, tv⟩ := r.vars i x t hx ht
    exact wpAny_Name (sim_load (ok.mono (Nat.zero_le _)) hv hn rfl (out v s.heap s.toks S r ⟨x, hx, hv⟩ (Ext.refl ..) fun _ => VarSame.refl _ _)) hd
  · exact out.elim
theorem Rel.dropVar {G : Gd} {cx : Cx} {sc : Scope} {ρ : AEnv} {S : Addr → Prop} {h : Heap} {i : Nat} {x : Str} {d : D} {v : Value} (r : Rel G cx sc ρ S h) (hx : (varNames sc)[i]? = some x) (ht : ρ[i]? = some (some (.ow true d))) (hv : Var cx.env h x v) :
    ∃ S', Rel G cx sc (ρ.set i (some (.sh d))) S' h ∧ RV S' h v d ∧ Ext S h S' h := by
  obtain ⟨w, hw, a, rfl, ns, ow, n⟩ := r.vars i x _ hx ht
  rw [Var.inj hv hw]
  obtain ⟨o, ho, hc, vs, nn, hd⟩ := ow.cls
  have hl : a ≠ cx.env.locals := by
    rintro rfl
    obtain ⟨m', o', es, ep, e', hd', _⟩ := r.ns
    rw [ho] at e'; cases e'; rw [hd] at hd'; cases hd'
  have rv : RV (fun b => S b ∨ b = a) h (.ref a) d := by
    unfold OwnAt at ow
    split at ow
    · obtain ⟨vs', n', e', rv⟩ := ow
      exact .list (.inr rfl) e' rfl rfl (rv.ext (Ext.grow fun _ q => .inl q))
    · exact ow.elim
  refine ⟨fun b => S b ∨ b = a, ⟨r.base, r.keep, r.ff, r.ns, r.cells, fun b q => q.elim (r.sdom b) fun q => ⟨o, by rw [q]; exact ho⟩, fun b q => q.elim (r.sok b) fun q => .inr (by rw [q]; exact n rfl),
    fun q => q.elim r.sloc fun q => hl q.symm, fun x c e q => q.elim (r.scell x c e) (r.notCell ho (by rw [hd]; intro v q; cases q) x c e), r.live, fun j y m e hy hj => ?_, fun v q => let ⟨C, e⟩ := r.hok v q; ⟨C, e.ext (Ext.grow fun _ q => .inl q)⟩, fun j y t hy htj => ?_, fun j k y z m m' e e' u hy hz hj hk a b => ?_⟩, rv, Ext.grow fun _ q => .inl q⟩
  · have hji : i ≠ j := by rintro rfl; rw [List.getElem?_set_self (by rw [List.getElem?_eq_some_iff] at ht; exact ht.1)] at hj; cases hj
    rw [List.getElem?_set_ne hji] at hj
    exact r.clean j y m e hy hj
  · by_cases hij : i = j
    · subst hij
      have : (ρ.set i (some (T.sh d)))[i]? = some (some (T.sh d)) := by
        rw [List.getElem?_set_self]; rw [List.getElem?_eq_some_iff] at ht; exact ht.1
      rw [this] at htj; cases htj
      rw [hx] at hy; cases hy
      exact ⟨_, hw, rv⟩
    · rw [List.getElem?_set_ne hij] at htj
      obtain ⟨u, hu, tv⟩ := r.vars j y t hy htj
      refine ⟨u, hu, ?_⟩
      cases t with
      | sh e => exact RV.ext (Ext.grow fun _ q => .inl q) tv
      | ow m e =>
        obtain ⟨b, rfl, nb, owb, n'⟩ := tv
        refine ⟨b, rfl, fun q => q.elim nb fun q => ?_, owb.ext (Ext.grow fun _ q => .inl q) (fun _ e => e), n'⟩
        subst q
        exact hij (r.inj i j x y true m d e (.ref b) hx hy ht htj hw hu)
  · have hji : i ≠ j := by rintro rfl; rw [List.getElem?_set_self (by rw [List.getElem?_eq_some_iff] at ht; exact ht.1)] at hj; cases hj
    have hki : i ≠ k := by rintro rfl; rw [List.getElem?_set_self (by rw [List.getElem?_eq_some_iff] at ht; exact ht.1)] at hk; cases hk
    rw [List.getElem?_set_ne hji] at hj
    rw [List.getElem?_set_ne hki] at hk
    exact r.inj j k y z m m' e e' u hy hz hj hk a b
noncomputable def eVar (i : Nat) : AEnv → Res T := fun ρ => match ρ[i]? with
  | some (some (.sh d)) => .ok (.sh d) ρ
  | some (some (.ow true d)) => .ok (.sh d) (ρ.set i (some (.sh d)))
  | _ => .stuck
theorem sim_name {G : Gd} {k : Nat} {sc : Scope} {x : Str} {pos : Pos} {i : Nat} (hx : (varNames sc)[i]? = some x) (hd : (x == ("__debug__" : Str)) = false) (hn : (x == ("__classdict__" : Str)) = false) :
    Sim G k sc (.Name x pos) (eVar i) := by
  intro cx ok ρ S s r Q E out
  unfold eVar at out
  split at out
  · rename_i d ht
    obtain ⟨v, hv, tv⟩ := r.vars i x _ hx ht
    exact wpAny_Name (sim_load (ok.mono (Nat.zero_le _)) hv hn rfl (out v s.heap s.toks S r tv (Ext.refl ..) fun _ => VarSame.refl _ _)) hd
  · rename_i d ht
    obtain ⟨v, hv, tv⟩ := r.vars i x _ hx ht
    obtain ⟨S', r', rv, x'⟩ := r.dropVar hx ht hv
    exact wpAny_Name (sim_load (ok.mono (Nat.zero_le _)) hv hn rfl (out v s.heap s.toks S' r' rv x' fun _ => VarSame.refl _ _)) hd
  · exact out.elim
noncomputable def eConst (d : D) : AEnv → Res T := fun ρ => .ok (.sh d) ρ
section
variable {G : Gd} {k : Nat} {sc : Scope} {pos : Pos} {kk : Nat}
theorem sim_none : Sim G k sc (.Constant .none kk pos) (eConst .none) := fun _ _ _ _ s r _ _ out => wpAny_Constant_none (out _ s.heap s.toks _ r .none (Ext.refl ..) fun _ => VarSame.refl _ _)
theorem sim_bool {b : Bool} : Sim G k sc (.Constant (.bool b) kk pos) (eConst (.bool b)) := fun _ _ _ _ s r _ _ out => wpAny_Constant_bool (out _ s.heap s.toks _ r (.bool b) (Ext.refl ..) fun _ => VarSame.refl _ _)
theorem sim_int {i : Int} : Sim G k sc (.Constant (.int i) kk pos) (eConst (.int i)) := fun _ _ _ _ s r _ _ out => wpAny_Constant_int (out _ s.heap _ _ r (.int i _) (Ext.refl ..) fun _ => VarSame.refl _ _)
theorem sim_str {x : Str} : Sim G k sc (.Constant (.str x) kk pos) (eConst (.str x)) := fun _ _ _ _ s r _ _ out => wpAny_Constant_str (out _ s.heap _ _ r (.str x _) (Ext.refl ..) fun _ => VarSame.refl _ _)
theorem sim_global {x : Str} {v : Value} (hG : G.Ok) (hx : sc.names.lookup x = some .globalImplicit) (hv : G.mg x = some v) (hl : ∀ a, v = .ref a → ∃ o, G.B.get? a = some o) (hd : (x == ("__debug__" : Str)) = false) : Sim G k sc (.Name x pos) (eConst (.glob v)) := by
  intro cx ok ρ S s r Q E out
  refine Calls.Name_function_global (by rw [ok.hsc]; exact ok.hk) (by unfold Env.kindOf; rw [ok.hsc]; exact hx) (Calls.loadGlobal_global (mg := G.mg) (by rw [ok.hg]; exact hG.g.keeps r.base) hv ?_) hd
  exact out _ s.heap s.toks _ r (.glob v fun a e => let ⟨o, e'⟩ := hl a e; ⟨o, r.base _ _ e'⟩) (Ext.refl ..) fun _ => VarSame.refl _ _
theorem sim_builtin {x : Str} {v : Value} (hG : G.Ok) (hx : sc.names.lookup x = some .globalImplicit) (hm : G.mg x = none) (hv : G.mb x = some v) (hl : ∀ a, v ≠ .ref a) (hd : (x == ("__debug__" : Str)) = false) : Sim G k sc (.Name x pos) (eConst (.glob v)) := by
  intro cx ok ρ S s r Q E out
  refine Calls.Name_function_global (by rw [ok.hsc]; exact ok.hk) (by unfold Env.kindOf; rw [ok.hsc]; exact hx) (Calls.loadGlobal_builtin (mg := G.mg) (mb := G.mb) (by rw [ok.hg]; exact hG.g.keeps r.base) hm (by rw [ok.hb]; exact hG.b.keeps r.base) hv ?_) hd
  exact out _ s.heap s.toks _ r (.glob v fun a e => (hl a e).elim) (Ext.refl ..) fun _ => VarSame.refl _ _
end
end Mine
end

section
set_option Elab.async false
set_option maxRecDepth 100000
namespace Mine
open PySem
noncomputable def Op1 (G : Gd) (m : Value → Sem Value) (F : D → Option T) : Prop :=
  ∀ cx sc, CxOk G cx sc 0 → ∀ ρ S s v x t, Rel G cx sc ρ S s.heap → RB S s.heap v x → F x = some t → Does G cx sc true (m v) S s (fun S' h' v t => TTmp cx S' h' v t) (.ok t ρ)
noncomputable def Op2 (G : Gd) (m : Value → Value → Sem Value) (F : D → D → Option T) : Prop :=
  ∀ cx sc, CxOk G cx sc 0 → ∀ ρ S s v w x y t, Rel G cx sc ρ S s.heap → RB S s.heap v x → RB S s.heap w y → F x y = some t → Does G cx sc true (m v w) S s (fun S' h' v t => TTmp cx S' h' v t) (.ok t ρ)
noncomputable def eOp1 (F : D → Option T) (f : AEnv → Res Bv) : AEnv → Res T := fun ρ => (f ρ).bind fun a ρ₁ => match a.get ρ₁ with
  | some x => (match F x with | some t => .ok t ρ₁ | none => .stuck)
  | none => .stuck
noncomputable def eOp2 (F : D → D → Option T) (f g : AEnv → Res Bv) : AEnv → Res T := fun ρ => (f ρ).bind fun a ρ₁ => (g ρ₁).bind fun b ρ₂ => match a.get ρ₂, b.get ρ₂ with
  | some x, some y => (match F x y with | some t => .ok t ρ₂ | none => .stuck)
  | _, _ => .stuck
section
variable {G : Gd} {cx : Cx} {sc : Scope} {same : Bool} {α β : Type} {S : Addr → Prop} {s : Shared}
theorem Does.stuck {m : Sem α} {J : (Addr → Prop) → Heap → α → β → Prop} : Does G cx sc same m S s J .stuck := fun _ _ out => out.elim
theorem Does.wp {m m' : Sem α} {J : (Addr → Prop) → Heap → α → β → Prop} {r : Res β} (h : Does G cx sc same m S s J r) (k : ∀ Q E, wpAny G.M cx.A m Q E s → wpAny G.M cx.A m' Q E s) : Does G cx sc same m' S s J r :=
  fun Q E out => k Q E (h Q E out)
theorem Does.operate {m : Sem Value} {vs : List Value} {J : (Addr → Prop) → Heap → Value → β → Prop} {r : Res β} (h : Does G cx sc same m S s J r) : Does G cx sc same (operate vs m) S s J r :=
  h.wp fun _ _ h => wpAny_operating h
end
theorem does_two {G : Gd} {cx : Cx} {sc : Scope} {γ δ : Type} {S : Addr → Prop} {s : Shared} {l r : Expr} {f g : AEnv → Res Bv} {k : Nat} {ρ : AEnv} {n : Value → Value → Sem γ} {J : (Addr → Prop) → Heap → γ → δ → Prop} {K : D → D → AEnv → Res δ}
    (hl : SimB G k sc l f) (hr : SimB G k sc r g) (ok : CxOk G cx sc k) (rel : Rel G cx sc ρ S s.heap)
    (h : ∀ ρ' S' h' tk v w x y, Rel G cx sc ρ' S' h' → RB S' h' v x → RB S' h' w y → Does G cx sc true (n v w) S' { s with heap := h', toks := tk } J (K x y ρ'))  :
    Does G cx sc true (do let a ← eval l cx.env; let b ← holding [a] (eval r cx.env); n a b) S s J ((f ρ).bind fun a ρ₁ => (g ρ₁).bind fun b ρ₂ => match a.get ρ₂, b.get ρ₂ with
      | some x, some y => K x y ρ₂
      | _, _ => .stuck) := by
  refine Does.bind (hl cx ok ρ S s rel) fun a ρ₁ va h₁ t₁ S₁ _ rel₁ ja x₁ v₁ => ?_
  refine Does.bind (Does.holding (hr cx ok ρ₁ S₁ { s with heap := h₁, toks := t₁ } rel₁)) fun b ρ₂ vb h₂ t₂ S₂ _ rel₂ jb x₂ v₂ => ?_
  have ja₂ : BVal cx sc S₂ h₂ va a := BVal.ext ja x₂ (v₂ rfl)
  split
  · rename_i x y hx hy
    exact h ρ₂ S₂ h₂ t₂ va vb x y rel₂ (ja₂.rb rel₂ hx) (BVal.rb jb rel₂ hy)
  · exact Does.stuck
theorem sim_BinOp {G : Gd} {k : Nat} {sc : Scope} {l r : Expr} {op : Operator} {pos : Pos} {f g : AEnv → Res Bv} {F : D → D → Option T} (hl : SimB G k sc l f) (hr : SimB G k sc r g) (hop : Op2 G (binaryOp op) F) :
    Sim G k sc (.BinOp l op r pos) (eOp2 F f g) := by
  intro cx ok ρ S s rel
  show Does G cx sc true (do let a ← eval l cx.env; let b ← holding [a] (eval r cx.env); standAt pos; operate [a, b] (binaryOp op a b)) S s _ _
  refine does_two (K := fun x y ρ₂ => match F x y with | some t => .ok t ρ₂ | none => .stuck) hl hr ok rel fun ρ' S' h' tk v w x y rel' rx ry => ?_
  refine Does.standAt (Does.operate ?_)
  split
  · rename_i t ht
    exact hop cx sc (ok.mono (Nat.zero_le _)) ρ' S' { s with heap := h', toks := tk } v w x y t rel' rx ry ht
  · exact Does.stuck
theorem sim_Compare1 {G : Gd} {k : Nat} {sc : Scope} {l r : Expr} {op : CmpOp} {pos : Pos} {f g : AEnv → Res Bv} {F : D → D → Option T} (hl : SimB G k sc l f) (hr : SimB G k sc r g) (hop : Op2 G (compareOp op) F)
    (hm : behindInMarks op r = false) : Sim G k sc (.Compare l [op] [r] pos) (eOp2 F f g) := by
  intro cx ok ρ S s rel
  rw [eval_Compare1, markedBehindIn_of_false hm]
  refine does_two (K := fun x y ρ₂ => match F x y with | some t => .ok t ρ₂ | none => .stuck) hl hr ok rel fun ρ' S' h' tk v w x y rel' rx ry => ?_
  refine Does.standAt (Does.operate ?_)
  split
  · rename_i t ht
    exact hop cx sc (ok.mono (Nat.zero_le _)) ρ' S' { s with heap := h', toks := tk } v w x y t rel' rx ry ht
  · exact Does.stuck
theorem sim_UnaryOp {G : Gd} {k : Nat} {sc : Scope} {x : Expr} {op : UnaryOp} {pos : Pos} {f : AEnv → Res Bv} {F : D → Option T} (hx : SimB G k sc x f) (hop : Op1 G (unaryOp op) F) : Sim G k sc (.UnaryOp op x pos) (eOp1 F f) := by
  intro cx ok ρ S s rel
  show Does G cx sc true (do let v ← eval x cx.env; standAt pos; holding [v] (unaryOp op v)) S s _ _
  refine Does.bind (hx cx ok ρ S s rel) fun a ρ₁ va h₁ t₁ S₁ _ rel₁ ja x₁ v₁ => ?_
  refine Does.standAt (Does.holding ?_)
  split
  · rename_i d hd
    split
    · rename_i t ht
      exact hop cx sc (ok.mono (Nat.zero_le _)) ρ₁ S₁ { s with heap := h₁, toks := t₁ } va d t rel₁ (BVal.rb ja rel₁ hd) ht
    · exact Does.stuck
  · exact Does.stuck
noncomputable def small (b : Int) : Bool := decide (b.natAbs < 2 ^ 63)
noncomputable def addI : D → D → Option T
  | .int a, .int b => some (.sh (.int (a + b)))
  | _, _ => none
noncomputable def subI : D → D → Option T
  | .int a, .int b => some (.sh (.int (a - b)))
  | _, _ => none
noncomputable def mulI : D → D → Option T
  | .int a, .int b => if small a || small b then some (.sh (.int (a * b))) else none
  | _, _ => none
noncomputable def divI : D → D → Option T
  | .int a, .int b => if b ≠ 0 ∧ b.natAbs < 1073741824 then some (.sh (.int (a.fdiv b))) else none
  | _, _ => none
noncomputable def modI : D → D → Option T
  | .int a, .int b => if b ≠ 0 then some (.sh (.int (a.fmod b))) else none
  | _, _ => none
noncomputable def powI : D → D → Option T
  | .int a, .int b => if 0 ≤ b ∧ b ≤ 1000 ∧ a.natAbs < 2 ^ 60 then some (.sh (.int (a ^ b.toNat))) else none
  | _, _ => none
noncomputable def negI : D → Option T
  | .int a => some (.sh (.int (-a)))
  | _ => none
theorem RB.int {S : Addr → Prop} {h : Heap} {v : Value} {i : Int} (q : RB S h v (.int i)) : ∃ t, v = .int i t := by
  have := q.rv fun _ e => by cases e
  cases this; exact ⟨_, rfl⟩
theorem RB.bool {S : Addr → Prop} {h : Heap} {v : Value} {i : Bool} (q : RB S h v (.bool i)) : v = .bool i := by
  have := q.rv fun _ e => by cases e
  cases this; rfl
theorem RB.str {S : Addr → Prop} {h : Heap} {v : Value} {i : Str} (q : RB S h v (.str i)) : ∃ t, v = .str i t := by
  have := q.rv fun _ e => by cases e
  cases this; exact ⟨_, rfl⟩
theorem RB.none {S : Addr → Prop} {h : Heap} {v : Value} (q : RB S h v .none) : v = .none := by
  have := q.rv fun _ e => by cases e
  cases this; rfl
theorem RB.tup {S : Addr → Prop} {h : Heap} {v : Value} {ds : List D} (q : RB S h v (.tup ds)) : ∃ a o vs n, v = .ref a ∧ h.get? a = some o ∧ o.cls = .type "tuple" ∧ o.data = .seq vs n ∧ RVs S h vs.toList ds := by
  have := q.rv fun _ e => by cases e
  cases this with | tup e hc hd r => exact ⟨_, _, _, _, rfl, e, hc, hd, r⟩
theorem out_sh {G : Gd} {cx : Cx} {sc : Scope} {ρ : AEnv} {S : Addr → Prop} {s : Shared} {Q : Value → Shared → Prop} {E : Value → Shared → Prop} {d : D} (out : Out G cx sc true S s (fun S' h' v t => TTmp cx S' h' v t) Q E (.ok (.sh d) ρ))
    (rel : Rel G cx sc ρ S s.heap) {v : Value} {tk : Nat} (q : RV S s.heap v d) : Q v { s with toks := tk } := out v s.heap tk S rel q (Ext.refl ..) fun _ => VarSame.refl _ _
section
variable {G : Gd}
theorem op_sub : Op2 G (binaryOp .Sub) subI := by
  intro cx sc ok ρ S s v w x y t rel rx ry e Q E out
  unfold subI at e; split at e
  · obtain ⟨_, rfl⟩ := rx.int; obtain ⟨_, rfl⟩ := ry.int; cases e
    exact PySem.P.sub_int (out_sh out rel (.int _ _))
  · cases e
theorem bits_small {b : Int} (h : small b = true) : Builtin.Int.intBits b ≤ 64 := by
  unfold small at h; simp only [decide_eq_true_eq] at h
  exact intBits_le_64 (by omega) (by omega)
theorem op_mul : Op2 G (binaryOp .Mult) mulI := by
  intro cx sc ok ρ S s v w x y t rel rx ry e Q E out
  unfold mulI at e; split at e
  · obtain ⟨_, rfl⟩ := rx.int; obtain ⟨_, rfl⟩ := ry.int
    split at e
    · rename_i hs
      cases e
      refine PySem.P.mul_int (out_sh out rel (.int _ _)) ?_
      rcases Bool.or_eq_true_iff.mp hs with q | q
      · exact .of_left (bits_small q)
      · exact .of_right (bits_small q)
    · cases e
  · cases e
theorem op_div : Op2 G (binaryOp .FloorDiv) divI := by
  intro cx sc ok ρ S s v w x y t rel rx ry e Q E out
  unfold divI at e; split at e
  · obtain ⟨_, rfl⟩ := rx.int; obtain ⟨_, rfl⟩ := ry.int
    split at e
    · rename_i hs
      cases e
      exact PyProof.Rows.floordiv_int hs.1 (out_sh out rel (.int _ _)) (.inl (PyProof.noPylong_small hs.2))
    · cases e
  · cases e
theorem op_mod : Op2 G (binaryOp .Mod) modI := by
  intro cx sc ok ρ S s v w x y t rel rx ry e Q E out
  unfold modI at e; split at e
  · obtain ⟨_, rfl⟩ := rx.int; obtain ⟨_, rfl⟩ := ry.int
    split at e
    · rename_i hs
      cases e
      exact PyProof.Rows.mod_int' hs (out_sh out rel (.int _ _))
    · cases e
  · cases e
theorem op_neg : Op1 G (unaryOp .USub) negI := by
  intro cx sc ok ρ S s v x t rel rx e Q E out
  unfold negI at e; split at e
  · obtain ⟨_, rfl⟩ := rx.int; cases e
    exact PySem.P.neg_int (out_sh out rel (.int _ _))
  · cases e
noncomputable def ltI : D → D → Option T
  | .int a, .int b => some (.sh (.bool (decide (a < b))))
  | _, _ => none
noncomputable def leI : D → D → Option T
  | .int a, .int b => some (.sh (.bool (decide (a ≤ b))))
  | _, _ => none
noncomputable def gtI : D → D → Option T
  | .int a, .int b => some (.sh (.bool (decide (b < a))))
  | _, _ => none
noncomputable def geI : D → D → Option T
  | .int a, .int b => some (.sh (.bool (decide (b ≤ a))))
  | _, _ => none
theorem op_lt : Op2 G (compareOp .Lt) ltI := by
  intro cx sc ok ρ S s v w x y t rel rx ry e Q E out
  unfold ltI at e; split at e
  · obtain ⟨_, rfl⟩ := rx.int; obtain ⟨_, rfl⟩ := ry.int; cases e
    exact PySem.P.lt_int (out_sh out rel (.bool _))
  · cases e
theorem op_le : Op2 G (compareOp .LtE) leI := by
  intro cx sc ok ρ S s v w x y t rel rx ry e Q E out
  unfold leI at e; split at e
  · obtain ⟨_, rfl⟩ := rx.int; obtain ⟨_, rfl⟩ := ry.int; cases e
    exact PySem.P.le_int (out_sh out rel (.bool _))
  · cases e
theorem op_gt : Op2 G (compareOp .Gt) gtI := by
  intro cx sc ok ρ S s v w x y t rel rx ry e Q E out
  unfold gtI at e; split at e
  · obtain ⟨_, rfl⟩ := rx.int; obtain ⟨_, rfl⟩ := ry.int; cases e
    exact PySem.P.gt_int (out_sh out rel (.bool _))
  · cases e
theorem op_ge : Op2 G (compareOp .GtE) geI := by
  intro cx sc ok ρ S s v w x y t rel rx ry e Q E out
  unfold geI at e; split at e
  · obtain ⟨_, rfl⟩ := rx.int; obtain ⟨_, rfl⟩ := ry.int; cases e
    exact PySem.P.ge_int (out_sh out rel (.bool _))
  · cases e
end
mutual
noncomputable def toPy : D → Option PyData
  | .none => some .none
  | .bool b => some (.bool b)
  | .int i => some (.int i)
  | .str x => some (.str x)
  | .tup ds => (toPys ds).map .tuple
  | .list ds => (toPys ds).map .list
  | _ => none
noncomputable def toPys : List D → Option (List PyData)
  | [] => some []
  | d :: ds => match toPy d, toPys ds with
    | some p, some ps => some (p :: ps)
    | _, _ => none
end
mutual
theorem RV.reads {S : Addr → Prop} {h : Heap} : ∀ {v : Value} {d : D}, RV S h v d → ∀ {p : PyData}, toPy d = some p → ∃ as, Reads h v p as
  | _, _, .none, _, e => by rw [toPy] at e; cases e; exact ⟨_, .none⟩
  | _, _, .bool b, _, e => by rw [toPy] at e; cases e; exact ⟨_, .bool b⟩
  | _, _, .int i t, _, e => by rw [toPy] at e; cases e; exact ⟨_, .int i t⟩
  | _, _, .str x t, _, e => by rw [toPy] at e; cases e; exact ⟨_, .str x t⟩
  | _, _, .tup (ds := ds) a b c r, _, e => by
    rw [toPy] at e
    cases hq : toPys ds with
    | none => rw [hq] at e; cases e
    | some ps =>
      rw [hq] at e; cases e
      obtain ⟨as, q⟩ := RVs.reads r hq
      exact ⟨as, .tuple a b c q⟩
  | _, _, .list (ds := ds) _ a b c r, _, e => by
    rw [toPy] at e
    cases hq : toPys ds with
    | none => rw [hq] at e; cases e
    | some ps =>
      rw [hq] at e; cases e
      obtain ⟨as, q⟩ := RVs.reads r hq
      exact ⟨_, .list a b c q⟩
  | _, _, .range _, _, e => by rw [toPy] at e <;> first | cases e | (intros; simp_all)
  | _, _, .exc _ _ _ _ _, _, e => by rw [toPy] at e <;> first | cases e | (intros; simp_all)
  | _, _, .glob _ _, _, e => by rw [toPy] at e <;> first | cases e | (intros; simp_all)
theorem RVs.reads {S : Addr → Prop} {h : Heap} : ∀ {vs : List Value} {ds : List D}, RVs S h vs ds → ∀ {ps : List PyData}, toPys ds = some ps → ∃ as, ReadsAll h vs ps as
  | _, _, .nil, _, e => by rw [toPys] at e; cases e; exact ⟨_, .nil⟩
  | _, _, .cons (d := d) (ds := ds) q r, _, e => by
    rw [toPys] at e
    cases hp : toPy d with
    | none => rw [hp] at e; cases e
    | some p =>
      cases hq : toPys ds with
      | none => rw [hp, hq] at e; cases e
      | some ps =>
        rw [hp, hq] at e; cases e
        obtain ⟨as, q'⟩ := RV.reads q hp
        obtain ⟨bs, r'⟩ := RVs.reads r hq
        exact ⟨_, .cons q' r'⟩
end
noncomputable def eqD (x y : D) : Option Bool := match toPy x, toPy y with
  | some p, some q => if SeqAt.shaped p && SeqAt.shaped q then some (PyData.eqv p q) else none
  | _, _ => none
noncomputable def eqI (x y : D) : Option T := (eqD x y).map fun b => .sh (.bool b)
noncomputable def neI (x y : D) : Option T := (eqD x y).map fun b => .sh (.bool !b)
theorem eqD_reads {S : Addr → Prop} {h : Heap} {v w : Value} {x y : D} {b : Bool} (rx : RB S h v x) (ry : RB S h w y) (e : eqD x y = some b) :
    ∃ p q as bs, Reads h v p as ∧ Reads h w q bs ∧ SeqAt.shaped p = true ∧ SeqAt.shaped q = true ∧ b = PyData.eqv p q := by
  unfold eqD at e
  split at e
  · rename_i p q hp hq
    split at e
    · rename_i hs
      obtain ⟨h1, h2⟩ := Bool.and_eq_true_iff.mp hs
      obtain ⟨as, ra⟩ := RV.reads rx.any hp
      obtain ⟨bs, rb⟩ := RV.reads ry.any hq
      exact ⟨p, q, as, bs, ra, rb, h1, h2, (Option.some.inj e).symm⟩
    · cases e
  · cases e
theorem op_eq {G : Gd} : Op2 G (compareOp .Eq) eqI := by
  intro cx sc ok ρ S s v w x y t rel rx ry e Q E out
  unfold eqI at e
  obtain ⟨b, hb, rfl⟩ := Option.map_eq_some_iff.mp e
  obtain ⟨p, q, as, bs, ra, rb, h1, h2, rfl⟩ := eqD_reads rx ry hb
  exact PyProof.Rows.eq_dataH ra rb h1 h2 (by have := ok.room.2; unfold cLine; omega) (out_sh out rel (tk := s.toks) (.bool _))
theorem op_ne {G : Gd} : Op2 G (compareOp .NotEq) neI := by
  intro cx sc ok ρ S s v w x y t rel rx ry e Q E out
  unfold neI at e
  obtain ⟨b, hb, rfl⟩ := Option.map_eq_some_iff.mp e
  obtain ⟨p, q, as, bs, ra, rb, h1, h2, rfl⟩ := eqD_reads rx ry hb
  exact PyProof.Rows.ne_dataH ra rb h1 h2 (by have := ok.room.2; unfold cLine; omega) (out_sh out rel (tk := s.toks) (.bool _))
noncomputable def isD (x : D) : D → Option Bool
  | .none => (match x with | .none => some true | .glob _ => none | _ => some false)
  | .bool c => (match x with | .bool b => some (b == c) | .glob _ => none | _ => some false)
  | _ => none
noncomputable def isI (x y : D) : Option T := (isD x y).map fun b => .sh (.bool b)
noncomputable def isNotI (x y : D) : Option T := (isD x y).map fun b => .sh (.bool !b)
theorem isD_same {S : Addr → Prop} {h : Heap} {v w : Value} {x y : D} {b : Bool} (rx : RB S h v x) (ry : RB S h w y) (e : isD x y = some b) : isSame v w = pure b := by
  have rx := rx.any
  unfold isD at e
  split at e
  · rw [ry.none]
    cases rx <;> first | (cases e; rfl) | (cases e; done)
  · rename_i c
    rw [ry.bool]
    cases rx with
    | bool b' => simp only [Option.some.injEq] at e; subst e; cases b' <;> cases c <;> rfl
    | _ => first | (cases e; rfl) | (cases e; done)
  · cases e
theorem op_is {G : Gd} : Op2 G (compareOp .Is) isI := by
  intro cx sc ok ρ S s v w x y t rel rx ry e Q E out
  unfold isI at e
  obtain ⟨b, hb, rfl⟩ := Option.map_eq_some_iff.mp e
  show wpAny G.M cx.A (do return .bool (← isSame v w)) Q E s
  rw [isD_same rx ry hb]
  exact wpAny_bind (wpAny_pure (wpAny_pure (out_sh out rel (tk := s.toks) (.bool _))))
end Mine
end

section
set_option Elab.async false
set_option maxRecDepth 100000
namespace Mine
open PySem
section
variable {G : Gd} {cx : Cx} {sc : Scope} {ρ : AEnv} {S : Addr → Prop} {s : Shared}
theorem Rel.push (r : Rel G cx sc ρ S s.heap) (o : Obj) : Rel G cx sc ρ S (s.heap.push o) := r.keeps fun _ _ e => Heap.get?_push_of_some _ e
theorem ext_push {S : Addr → Prop} {h : Heap} (o : Obj) : Ext S h S (h.push o) := Ext.of_keeps fun _ _ e => Heap.get?_push_of_some _ e
theorem kp_push {h : Heap} (o : Obj) : Kp h (h.push o) := Kp.of_keeps fun _ _ e => Heap.get?_push_of_some _ e
theorem does_newTuple {vs : List Value} {ds : List D} (r : Rel G cx sc ρ S s.heap) (q : RVs S s.heap vs ds) (hl : ds.length ≤ 1000000) :
    Does G cx sc true (newTuple vs) S s (fun S' h' v t => TTmp cx S' h' v t) (.ok (.sh (.tup ds)) ρ) := by
  intro Q E out
  refine wpAny_newObj_type (out _ _ s.toks S (r.push _) ?_ (ext_push _) fun _ => r.same (kp_push _)) ?_
  · exact .tup (Heap.get?_push_size _ rfl) rfl rfl (by simpa using q.ext (ext_push _))
  · show vs.toArray.size ≤ sizeLine
    rw [List.size_toArray, q.length, sizeLine_eq]; omega
theorem fresh_list {h' : Heap} {a : Addr} {vs : Array Value} {n : Nat} {ds : List D} (r : Rel G cx sc ρ S s.heap) (k : Kp s.heap h') (e : s.heap.get? a = none) (e' : h'.get? a = some { cls := .type "list", data := .seq vs n }) (q : RVs S h' vs.toList ds) :
    Fresh cx S h' (.ref a) (.list ds) := by
  refine ⟨a, rfl, fun q => ?_, ⟨vs, n, e', q⟩, r.keep.none e, fun x hd q => ?_⟩
  · obtain ⟨o, e₁⟩ := r.sdom _ q; rw [e] at e₁; cases e₁
  · obtain ⟨o, e₁⟩ := r.live x _ hd (Var.of_kp k r.ns r.cells q); rw [e] at e₁; cases e₁
theorem does_newList {vs : List Value} {ds : List D} (r : Rel G cx sc ρ S s.heap) (q : RVs S s.heap vs ds) (hl : ds.length ≤ 1000000) :
    Does G cx sc true (newList vs) S s (fun S' h' v t => TTmp cx S' h' v t) (.ok (.ow true (.list ds)) ρ) := by
  intro Q E out
  refine wpAny_newObj_type (out _ _ s.toks S (r.push _) ?_ (ext_push _) fun _ => r.same (kp_push _)) ?_
  · exact fresh_list r (kp_push _) (Heap.get?_none_of_le (Nat.le_refl _)) (Heap.get?_push_size _ rfl) (by simpa using q.ext (ext_push _))
  · show vs.toArray.size ≤ sizeLine
    rw [List.size_toArray, q.length, sizeLine_eq]; omega
end
noncomputable def SimVs (G : Gd) (k : Nat) (sc : Scope) (es : List Expr) (f : AEnv → Res (List D)) : Prop :=
  ∀ pos cx, CxOk G cx sc k → ∀ ρ S s, Rel G cx sc ρ S s.heap → Does G cx sc true (spliced (backTo pos (starEach es cx.env))) S s (fun S' h' vs ds => RVs S' h' vs ds) (f ρ)
noncomputable def eNil : AEnv → Res (List D) := fun ρ => .ok [] ρ
noncomputable def eCons (f : AEnv → Res T) (g : AEnv → Res (List D)) : AEnv → Res (List D) := fun ρ => (f ρ).bind fun t ρ₁ => (g ρ₁).bind fun ds ρ₂ => .ok (t.val :: ds) ρ₂
noncomputable def unstarred : Expr → Bool
  | .Starred .. => false
  | _ => true
theorem starEach_cons {e : Expr} {rest : List Expr} {env : Env} (h : unstarred e = true) : starEach (e :: rest) env = (false, eval e env) :: starEach rest env := by
  cases e <;> first | rfl | cases h
section
variable {G : Gd} {k : Nat} {sc : Scope}
theorem simVs_nil : SimVs G k sc [] eNil := fun pos cx ok ρ S s r => Does.pure r .nil
theorem spliced_items {pos : Pos} {e : Expr} {rest : List Expr} {env : Env} (h : unstarred e = true) : spliced (backTo pos (starEach (e :: rest) env)) = (do
    let v ← eval e env
    let here ← (pure [v] : Sem (List Value))
    return here ++ (← holding here (spliced (backTo pos (starEach rest env))))) := by
  rw [starEach_cons h]; rfl
theorem Does.shared {cx : Cx} {S : Addr → Prop} {s : Shared} {m : Sem Value} {r : Res T} (h : Does G cx sc true m S s (fun S' h' v t => TTmp cx S' h' v t) r) :
    Does G cx sc true m S s (fun S' h' v d => RV S' h' v d) (r.bind fun t ρ => .ok t.val ρ) := by
  intro Q E out
  refine h Q E ?_
  cases r with
  | stuck => exact out
  | exc C ρ => exact out
  | ok t ρ =>
    intro v h' tk S' rel j x vs
    obtain ⟨S₂, rel₂, rv, x₂⟩ := rel.drop j
    exact out v h' tk S₂ rel₂ rv (x.trans x₂) vs
theorem bind_ok {α β γ : Type} (r : Res α) (f : α → β) (g : β → AEnv → Res γ) : (r.bind fun a ρ => .ok (f a) ρ).bind g = r.bind fun a ρ => g (f a) ρ := by
  cases r <;> rfl
theorem simVs_cons {e : Expr} {rest : List Expr} {f : AEnv → Res T} {g : AEnv → Res (List D)} (he : Sim G k sc e f) (hr : SimVs G k sc rest g) (hs : unstarred e = true) : SimVs G k sc (e :: rest) (eCons f g) := by
  intro pos cx ok ρ S s r
  rw [spliced_items hs]
  unfold eCons
  rw [← bind_ok (f ρ) T.val (fun d ρ₁ => (g ρ₁).bind fun ds ρ₂ => .ok (d :: ds) ρ₂)]
  refine Does.bind (he cx ok ρ S s r).shared fun d ρ₁ v h₁ t₁ S₁ _ r₁ j₁ x₁ v₁ => ?_
  intro Q E out
  refine wpAny_bind (wpAny_pure ?_)
  refine (Does.bind (J' := fun S' h' vs ds => RVs S' h' vs ds) (Does.holding (hr pos cx ok ρ₁ S₁ { s with heap := h₁, toks := t₁ } r₁)) fun ds ρ₂ vs h₂ t₂ S₂ _ r₂ j₂ x₂ v₂ => ?_) Q E out
  exact Does.pure r₂ (.cons (j₁.ext x₂) j₂)
end
noncomputable def eTup (f : AEnv → Res (List D)) : AEnv → Res T := fun ρ => (f ρ).bind fun ds ρ₁ => if ds.length ≤ 1000000 then .ok (.sh (.tup ds)) ρ₁ else .stuck
noncomputable def eLst (f : AEnv → Res (List D)) : AEnv → Res T := fun ρ => (f ρ).bind fun ds ρ₁ => if ds.length ≤ 1000000 then .ok (.ow true (.list ds)) ρ₁ else .stuck
section
variable {G : Gd} {k : Nat} {sc : Scope}
theorem sim_Tuple {es : List Expr} {n : Nat} {pos : Pos} {f : AEnv → Res (List D)} (h : SimVs G k sc es f) : Sim G k sc (.Tuple es n pos) (eTup f) := by
  intro cx ok ρ S s r
  show Does G cx sc true (do standAt pos; newTuple (← spliced (backTo pos (starEach es cx.env)))) S s _ _
  refine Does.standAt (Does.bind (h pos cx ok ρ S s r) fun ds ρ₁ vs h₁ t₁ S₁ _ r₁ j₁ x₁ v₁ => ?_)
  split
  · rename_i hl; exact does_newTuple (s := { s with heap := h₁, toks := t₁ }) r₁ j₁ hl
  · exact Does.stuck
theorem sim_List {es : List Expr} {pos : Pos} {f : AEnv → Res (List D)} (h : SimVs G k sc es f) : Sim G k sc (.List es pos) (eLst f) := by
  intro cx ok ρ S s r
  show Does G cx sc true (do standAt pos; newList (← spliced (backTo pos (starEach es cx.env)))) S s _ _
  refine Does.standAt (Does.bind (h pos cx ok ρ S s r) fun ds ρ₁ vs h₁ t₁ S₁ _ r₁ j₁ x₁ v₁ => ?_)
  split
  · rename_i hl; exact does_newList (s := { s with heap := h₁, toks := t₁ }) r₁ j₁ hl
  · exact Does.stuck
end
noncomputable def SimT (G : Gd) (k : Nat) (sc : Scope) (e : Expr) (f : AEnv → Res Bool) : Prop :=
  ∀ cx, CxOk G cx sc k → ∀ ρ S s, Rel G cx sc ρ S s.heap → Does G cx sc true (isTrue e cx.env (eval e cx.env)) S s (fun _ _ a b => a = b) (f ρ)
noncomputable def asB : D → Option Bool
  | .bool b => some b
  | _ => none
noncomputable def eTruth (f : AEnv → Res Bv) : AEnv → Res Bool := fun ρ => (f ρ).bind fun a ρ₁ => match a.get ρ₁ with
  | some x => (match asB x with | some b => .ok b ρ₁ | none => .stuck)
  | none => .stuck
noncomputable def eNot (f : AEnv → Res Bool) : AEnv → Res Bool := fun ρ => (f ρ).bind fun b ρ₁ => .ok (!b) ρ₁
noncomputable def eAndNil : AEnv → Res Bool := fun ρ => .ok true ρ
noncomputable def eOrNil : AEnv → Res Bool := fun ρ => .ok false ρ
noncomputable def eAnd (f g : AEnv → Res Bool) : AEnv → Res Bool := fun ρ => (f ρ).bind fun b ρ₁ => if b then g ρ₁ else .ok false ρ₁
noncomputable def eOr (f g : AEnv → Res Bool) : AEnv → Res Bool := fun ρ => (f ρ).bind fun b ρ₁ => if b then .ok true ρ₁ else g ρ₁
noncomputable def eTest2 (F : D → D → Option T) (f g : AEnv → Res Bv) : AEnv → Res Bool := fun ρ => (f ρ).bind fun a ρ₁ => (g ρ₁).bind fun b ρ₂ => match a.get ρ₂, b.get ρ₂ with
  | some x, some y => (match F x y with | some (.sh (.bool b)) => .ok b ρ₂ | _ => .stuck)
  | _, _ => .stuck
section
variable {G : Gd} {k : Nat} {sc : Scope}
theorem simT_val {e : Expr} {f : AEnv → Res Bv} (h : SimB G k sc e f) (he : ∀ env whole, isTrue e env whole = (do let v ← whole; standAt e.pos; holding [v] (truthy v))) : SimT G k sc e (eTruth f) := by
  intro cx ok ρ S s r
  rw [he]
  refine Does.bind (h cx ok ρ S s r) fun a ρ₁ va h₁ t₁ S₁ _ r₁ ja x₁ v₁ => ?_
  refine Does.standAt (Does.holding ?_)
  split
  · rename_i x hx
    split
    · rename_i b hb
      have rb := BVal.rb ja r₁ hx
      unfold asB at hb
      split at hb
      · cases hb
        rw [rb.bool]
        intro Q E out
        exact wpAny_truthy_bool (out _ h₁ t₁ S₁ r₁ rfl (Ext.refl ..) fun _ => VarSame.refl _ _)
      · cases hb
    · exact Does.stuck
  · exact Does.stuck
theorem simT_not {x : Expr} {pos : Pos} {f : AEnv → Res Bool} (h : SimT G k sc x f) : SimT G k sc (.UnaryOp .Not x pos) (eNot f) := by
  intro cx ok ρ S s r
  show Does G cx sc true (do return !(← isTrue x cx.env (eval x cx.env))) S s _ _
  refine Does.bind (h cx ok ρ S s r) fun b ρ₁ a h₁ t₁ S₁ _ r₁ j x₁ v₁ => ?_
  exact Does.pure r₁ (by rw [j])
noncomputable def SimTs (G : Gd) (k : Nat) (sc : Scope) (op : BoolOp) (es : List Expr) (f : AEnv → Res Bool) : Prop :=
  ∀ cx, CxOk G cx sc k → ∀ ρ S s, Rel G cx sc ρ S s.heap → Does G cx sc true (allTrue op es cx.env) S s (fun _ _ a b => a = b) (f ρ)
theorem simTs_and_nil : SimTs G k sc .And [] eAndNil := fun _ _ _ _ _ r => Does.pure r rfl
theorem simTs_or_nil : SimTs G k sc .Or [] eOrNil := fun _ _ _ _ _ r => Does.pure r rfl
theorem simTs_and {x : Expr} {rest : List Expr} {f g : AEnv → Res Bool} (hx : SimT G k sc x f) (hr : SimTs G k sc .And rest g) : SimTs G k sc .And (x :: rest) (eAnd f g) := by
  intro cx ok ρ S s r
  show Does G cx sc true (do match BoolOp.And, ← isTrue x cx.env (eval x cx.env) with | .And, false => pure false | .Or, true => pure true | _, _ => allTrue .And rest cx.env) S s _ _
  refine Does.bind (hx cx ok ρ S s r) fun b ρ₁ a h₁ t₁ S₁ _ r₁ j x₁ v₁ => ?_
  subst j
  cases a
  · exact Does.pure r₁ rfl
  · exact hr cx ok ρ₁ S₁ _ r₁
theorem simTs_or {x : Expr} {rest : List Expr} {f g : AEnv → Res Bool} (hx : SimT G k sc x f) (hr : SimTs G k sc .Or rest g) : SimTs G k sc .Or (x :: rest) (eOr f g) := by
  intro cx ok ρ S s r
  show Does G cx sc true (do match BoolOp.Or, ← isTrue x cx.env (eval x cx.env) with | .And, false => pure false | .Or, true => pure true | _, _ => allTrue .Or rest cx.env) S s _ _
  refine Does.bind (hx cx ok ρ S s r) fun b ρ₁ a h₁ t₁ S₁ _ r₁ j x₁ v₁ => ?_
  subst j
  cases a
  · exact hr cx ok ρ₁ S₁ _ r₁
  · exact Does.pure r₁ rfl
theorem simT_boolOp {op : BoolOp} {es : List Expr} {pos : Pos} {f : AEnv → Res Bool} (h : SimTs G k sc op es f) : SimT G k sc (.BoolOp op es pos) f := by
  intro cx ok ρ S s r
  rw [arm_isTrue_BoolOp]; exact h cx ok ρ S s r
theorem does_truth {cx : Cx} {ρ : AEnv} {S : Addr → Prop} {s : Shared} {m : Sem Value} {t : T} (h : Does G cx sc true m S s (fun S' h' v t => TTmp cx S' h' v t) (.ok t ρ)) {vs : Value → List Value} :
    Does G cx sc true (do let c ← m; holding (vs c) (truthy c)) S s (fun _ _ a b => a = b) (match t with | .sh (.bool b) => .ok b ρ | _ => .stuck) := by
  intro Q E out
  refine wpAny_bind (h _ _ ?_)
  intro v h' tk S' rel j x v'
  refine wpAny_holding ?_
  split at out
  · rename_i b
    cases j with
    | bool b => exact wpAny_truthy_bool (out _ h' tk S' rel rfl x v')
  · exact out.elim
theorem simT_Compare1 {l r : Expr} {op : CmpOp} {pos : Pos} {f g : AEnv → Res Bv} {F : D → D → Option T} (hl : SimB G k sc l f) (hr : SimB G k sc r g) (hop : Op2 G (compareOp op) F)
    (hm : behindInMarks op r = false) : SimT G k sc (.Compare l [op] [r] pos) (eTest2 F f g) := by
  intro cx ok ρ S s rel
  rw [isTrue_Compare1, markedBehindIn_of_false hm]
  refine does_two (K := fun x y ρ₂ => match F x y with | some (.sh (.bool b)) => .ok b ρ₂ | _ => .stuck) hl hr ok rel fun ρ' S' h' tk v w x y rel' rx ry => ?_
  refine Does.standAt ?_
  cases hF : F x y with
  | none => exact Does.stuck
  | some t =>
    have := does_truth (vs := fun c => [c]) (Does.operate (vs := [v, w]) (hop cx sc (ok.mono (Nat.zero_le _)) ρ' S' { s with heap := h', toks := tk } v w x y t rel' rx ry hF))
    cases t with
    | sh d => cases d <;> exact this
    | ow m d => exact this
end
noncomputable def eChain (F F' : D → D → Option T) (f g h : AEnv → Res Bv) : AEnv → Res Bool := fun ρ => (f ρ).bind fun a ρ₁ => (g ρ₁).bind fun b ρ₂ => match a.get ρ₂, b.get ρ₂ with
  | some x, some y => (match F x y with
    | some (.sh (.bool true)) => (h ρ₂).bind fun c ρ₃ => (match b.get ρ₃, c.get ρ₃ with
      | some y', some z => (match F' y' z with | some (.sh (.bool b)) => .ok b ρ₃ | _ => .stuck)
      | _, _ => .stuck)
    | some (.sh (.bool false)) => .ok false ρ₂
    | _ => .stuck)
  | _, _ => .stuck
theorem simT_chain {G : Gd} {k : Nat} {sc : Scope} {l m r : Expr} {op op' : CmpOp} {pos : Pos} {f g h : AEnv → Res Bv} {F F' : D → D → Option T} (hl : SimB G k sc l f) (hm : SimB G k sc m g) (hr : SimB G k sc r h) (hop : Op2 G (compareOp op) F) (hop' : Op2 G (compareOp op') F')
    (hb : behindInMarks op' r = false) : SimT G k sc (.Compare l [op, op'] [m, r] pos) (eChain F F' f g h) := by
  intro cx ok ρ S s rel
  show Does G cx sc true (do testChain pos (← eval l cx.env) [op, op'] [eval m cx.env, markedBehindIn op' r (eval r cx.env)]) S s _ _
  rw [markedBehindIn_of_false hb]
  show Does G cx sc true (do
    let a ← eval l cx.env
    let rv ← holding [a] (eval m cx.env)
    standAt pos
    let c ← holding [a, rv] (compareOp op a rv)
    release [a, rv] [c]
    if ← holding [c, rv] (truthy c) then testChain pos rv [op'] [eval r cx.env] else pure false) S s _ _
  unfold eChain
  refine Does.bind (hl cx ok ρ S s rel) fun a ρ₁ va h₁ t₁ S₁ _ rel₁ ja x₁ v₁ => ?_
  refine Does.bind (Does.holding (hm cx ok ρ₁ S₁ { s with heap := h₁, toks := t₁ } rel₁)) fun b ρ₂ vb h₂ t₂ S₂ _ rel₂ jb x₂ v₂ => ?_
  have ja₂ : BVal cx sc S₂ h₂ va a := BVal.ext ja x₂ (v₂ rfl)
  refine Does.standAt ?_
  split
  · rename_i x y hx hy
    have rx := ja₂.rb rel₂ hx
    have ry := BVal.rb jb rel₂ hy
    cases hF : F x y with
    | none => exact Does.stuck
    | some t =>
      have hc := hop cx sc (ok.mono (Nat.zero_le _)) ρ₂ S₂ { s with heap := h₂, toks := t₂ } va vb x y t rel₂ rx ry hF
      intro Q E out
      refine wpAny_bind (wpAny_holding (hc _ _ ?_))
      intro c h₃ t₃ S₃ rel₃ j₃ x₃ v₃
      refine wpAny_bind (wpAny_release ?_)
      refine wpAny_bind (wpAny_holding ?_)
      cases t with
      | ow m d => exact out.elim
      | sh d =>
        cases d with
        | bool b' =>
          cases j₃
          refine wpAny_truthy_bool ?_
          cases b' with
          | false => exact wpAny_pure (out _ h₃ t₃ S₃ rel₃ rfl x₃ v₃)
          | true =>
            have jb₃ : BVal cx sc S₃ h₃ vb b := BVal.ext jb x₃ (v₃ rfl)
            show wpAny _ _ (do let rv ← holding [vb] (eval r cx.env); standAt pos; let c ← operate [vb, rv] (compareOp op' vb rv); holding [c] (truthy c)) _ _ _
            have step : Does G cx sc true (do let rv ← holding [vb] (eval r cx.env); standAt pos; let c ← operate [vb, rv] (compareOp op' vb rv); holding [c] (truthy c)) S₃ { s with heap := h₃, toks := t₃ } (fun _ _ a b => a = b)
                ((h ρ₂).bind fun c ρ₃ => (match b.get ρ₃, c.get ρ₃ with
                  | some y', some z => (match F' y' z with | some (.sh (.bool b)) => .ok b ρ₃ | _ => .stuck)
                  | _, _ => .stuck)) := by
              refine Does.bind (Does.holding (hr cx ok ρ₂ S₃ { s with heap := h₃, toks := t₃ } rel₃)) fun c' ρ₄ vc h₄ t₄ S₄ _ rel₄ jc x₄ v₄ => ?_
              have jb₄ : BVal cx sc S₄ h₄ vb b := BVal.ext jb₃ x₄ (v₄ rfl)
              refine Does.standAt ?_
              split
              · rename_i y' z hy' hz
                cases hF' : F' y' z with
                | none => exact Does.stuck
                | some t' =>
                  have := does_truth (vs := fun c => [c]) (Does.operate (vs := [vb, vc]) (hop' cx sc (ok.mono (Nat.zero_le _)) ρ₄ S₄ { s with heap := h₄, toks := t₄ } vb vc y' z t' rel₄ (jb₄.rb rel₄ hy') (BVal.rb jc rel₄ hz) hF'))
                  cases t' with
                  | sh d => cases d <;> exact this
                  | ow m d => exact this
              · exact Does.stuck
            refine step Q E ?_
            cases hr' : (h ρ₂).bind fun c ρ₃ => (match b.get ρ₃, c.get ρ₃ with
                  | some y', some z => (match F' y' z with | some (.sh (.bool b)) => .ok b ρ₃ | _ => .stuck)
                  | _, _ => .stuck) with
            | stuck => rw [hr'] at out; exact out
            | exc C ρ' => rw [hr'] at out; intro e h' tk S' rel' fly x'; exact out e h' tk S' rel' (fly.back x₃) (x₃.trans x')
            | ok b ρ' => rw [hr'] at out; intro a h' tk S' rel' j x' v'; exact out a h' tk S' rel' j (x₃.trans x') fun q => (v₃ q).trans (v' q)
        | _ => exact out.elim
  · exact Does.stuck
end Mine
end

section
set_option Elab.async false
set_option maxRecDepth 100000
namespace Mine
open PySem
structure KpE (B h : Heap) (e : Addr) (g h' : Heap) : Prop where
  keep : ∀ b o, g.get? b = some o → b ≠ e → (o.cls ≠ .type "traceback" ∨ ∃ o₀, h.get? b = some o₀) → ∃ sl, h'.get? b = some { o with slots := sl } ∧ (NotDict o → sl = o.slots)
  base : ∀ b o, B.get? b = some o → g.get? b = some o → b ≠ e → (∃ o₀, h.get? b = some o₀) → h'.get? b = some o
  dom : ∀ b o, g.get? b = some o → ∃ o', h'.get? b = some o'
theorem KpE.trans {B h : Heap} {e : Addr} {g₁ g₂ g₃ : Heap} (x : KpE B h e g₁ g₂) (y : KpE B h e g₂ g₃) : KpE B h e g₁ g₃ where
  keep := fun b o eb hb q => by
    obtain ⟨sl, e₁, k₁⟩ := x.keep b o eb hb q
    obtain ⟨sl', e₂, k₂⟩ := y.keep b _ e₁ hb q
    exact ⟨sl', e₂, fun hn => (k₂ hn).trans (k₁ hn)⟩
  base := fun b o eb eg hb q => y.base b o eb (x.base b o eb eg hb q) hb q
  dom := fun b o eb => let ⟨o', e'⟩ := x.dom b o eb; y.dom b o' e'
theorem KpE.refl (B h : Heap) (e : Addr) (g : Heap) : KpE B h e g g := ⟨fun _ o eb _ _ => ⟨o.slots, eb, fun _ => rfl⟩, fun _ _ _ e _ _ => e, fun _ o eb => ⟨o, eb⟩⟩
noncomputable def FlyT (h h' : Heap) (e C : Addr) : Prop := h.get? e = none ∧ ∃ oe vs T oT ts, h'.get? e = some oe ∧ oe.cls = .ref C ∧ oe.dict = none ∧ oe.data = .fields vs ∧ vs[2]? = some .none ∧
  vs[1]? = some (.ref T) ∧ T ≠ e ∧ h.get? T = none ∧ h'.get? T = some oT ∧ oT.cls = .type "traceback" ∧ oT.data = .fields ts ∧ 3 < ts.size
theorem FlyT.fly {h h' : Heap} {e C : Addr} (x : FlyT h h' e C) : Fly h h' e C := by
  obtain ⟨n, oe, vs, T, oT, ts, a, b, b', c, d, k⟩ := x
  exact ⟨n, oe, vs, a, b, b', c, d, .inr ⟨T, oT, ts, k⟩⟩
theorem dict_mapFields (f : Array Value → Array Value) (o : Obj) : (Obj.mapFields f o).dict = o.dict := by
  obtain ⟨c, d, dt, sl⟩ := o
  cases dt <;> rfl
theorem setIf2 {vs : Array Value} {x : Value} (h : vs[2]? = some .none) : (vs.setIfInBounds 1 x)[2]? = some .none := by
  rw [Array.getElem?_setIfInBounds_ne (by decide)]; exact h
section
variable {M : Model} {A : Around} {E : Value → Shared → Prop} {s : Shared} {B h : Heap} {fs : List Env} {env : Env} {e C : Addr}
theorem frameOf_same {env env' : Env} (h : env.frame = env'.frame) : frameOf env = frameOf env' := by unfold frameOf; rw [h]
theorem FF.notFrame (ff : FF B s.heap fs) {b : Addr} {o : Obj} (eb : s.heap.get? b = some o) (hn : NotDict o) : b ∉ fs.filterMap (·.frame) := fun hm => by
  obtain ⟨env, he, hf⟩ := List.mem_filterMap.mp hm
  obtain ⟨_, L, o', h1, _, h3, es, n, h4⟩ := ff env he
  rw [h1] at hf; cases hf
  rw [eb] at h3; cases h3
  exact hn es n h4
theorem wp_entry {L : Addr} {oe : Obj} {vs : Array Value} {head : Value} {hadNext : Bool} {Q : Unit → Shared → Prop} (hfr : A.frames = some fs) (ff : FF B s.heap fs) (top : ∃ env₀ outer, fs = env₀ :: outer ∧ env.frame = env₀.frame) (hf : env.frame = some L)
    (hne : h.get? e = none) (dom : ∀ b o, h.get? b = some o → ∃ o', s.heap.get? b = some o') (he : s.heap.get? e = some oe) (hc : oe.cls = .ref C) (hdn : oe.dict = none) (hd : oe.data = .fields vs) (hsz : 1 < vs.size) (h2 : vs[2]? = some .none)
    (hQ : ∀ h', KpE B h e s.heap h' → FlyT h h' e C → Q () { s with heap := h' }) :
    wpAny M A (do let a ← frameOf env; let pl ← entryPlaceOf L hadNext; let b ← EntryCells.newEntry head a .none (rawInt L) .none pl; setField (.ref e) 1 b) Q E s := by
  obtain ⟨env₀, outer, rfl, hee⟩ := top
  rw [frameOf_same hee]
  have hene : e ∉ (env₀ :: outer).filterMap (·.frame) := ff.notFrame he (.fields hd)
  refine wpAny_bind (wpAny_frameOf_fun (base := B) hfr ff.fun (hee.symm.trans hf) fun h₁ hs₁ => ?_)
  refine wpAny_bind (wpAny_entryPlaceOf fun pl hpl => ?_)
  unfold EntryCells.newEntry newFields
  refine wpAny_bind (wpAny_newObj_type ?_ (hpl.sizeOk5 _ _ _ _ _))
  have he₁ : h₁.get? e = some oe := (hs₁.2.1 e hene).trans he
  have he₂ := Heap.get?_push_of_some (h := h₁) { cls := .type "traceback", dict := none, data := .fields ([head, .ref L, .none, rawInt L, .none] ++ (if pl.isEmpty then List.replicate 6 Value.none else pl)).toArray } he₁
  refine wpAny_setField he₂ hd hsz (hQ _ ?_ ?_)
  · have keep : ∀ b o, b ≠ e → h₁.get? b = some o → ((h₁.push { cls := .type "traceback", dict := none, data := .fields ([head, .ref L, .none, rawInt L, .none] ++ (if pl.isEmpty then List.replicate 6 Value.none else pl)).toArray }).update e (Obj.mapFields (·.setIfInBounds 1 (Value.ref h₁.objs.size)))).get? b = some o := fun b o hbe hb => by
      rw [Heap.get?_update_other _ _ (Ne.symm hbe)]
      exact Heap.get?_push_of_some _ hb
    refine ⟨fun b o eb hb _ => ?_, fun b o eB eb hb _ => ?_, fun b o eb => ?_⟩
    · obtain ⟨sl, e₁⟩ := hs₁.2.2 b o eb
      refine ⟨sl, keep b _ hb e₁, fun hn => ?_⟩
      have := hs₁.2.1 b (ff.notFrame eb hn)
      rw [eb, e₁] at this
      injection this with this
      have := congrArg Obj.slots this
      exact this
    · refine keep b o hb ((hs₁.2.1 b fun hm => ?_).trans eb)
      obtain ⟨env', he', hf'⟩ := List.mem_filterMap.mp hm
      obtain ⟨_, L', o', h1', h2', _⟩ := ff env' he'
      rw [h1'] at hf'; cases hf'
      rw [h2'] at eB; cases eB
    · by_cases hb : b = e
      · subst hb; exact ⟨_, Heap.get?_update_self _ he₂ (Obj.isFreed_of_fields (Obj.data_mapFields hd _))⟩
      · obtain ⟨sl, e₁⟩ := hs₁.2.2 b o eb
        exact ⟨_, keep b _ hb e₁⟩
  · have hTe : h₁.objs.size ≠ e := Nat.ne_of_gt (Heap.lt_size he₁)
    refine ⟨hne, _, _, h₁.objs.size, _, _, Heap.get?_update_self _ he₂ (Obj.isFreed_of_fields (Obj.data_mapFields hd _)), (Obj.cls_mapFields _ _).trans hc, (dict_mapFields _ _).trans hdn, Obj.data_mapFields hd _, setIf2 h2, by simp [hsz], hTe, ?_, (Heap.get?_update_other _ _ (Ne.symm hTe)).trans (Heap.get?_push_size h₁ rfl), rfl, rfl, ?_⟩
    · cases q : h.get? h₁.objs.size with
      | none => rfl
      | some o =>
        obtain ⟨o', e'⟩ := dom _ _ q
        obtain ⟨sl, e₁⟩ := hs₁.2.2 _ o' e'
        exact absurd (Heap.lt_size e₁) (Nat.lt_irrefl _)
    · simp only [List.size_toArray, List.length_append, List.length_cons, List.length_nil]; omega
theorem upd_other {g : Heap} {T : Addr} {f : Obj → Obj} {oT : Obj} {ts : Array Value} (hT : g.get? T = some oT) (hc : oT.cls = .type "traceback") (hd : oT.data = .fields ts) (hTn : h.get? T = none) (hfr : (f oT).isFreed = false) : KpE B h e g (g.update T f) := by
  have ne : ∀ b o, g.get? b = some o → (o.cls ≠ .type "traceback" ∨ ∃ o₀, h.get? b = some o₀) → T ≠ b := fun b o eb q hb => by
    subst hb
    rcases q with q | ⟨o₀, q⟩
    · rw [hT] at eb; cases eb; exact q hc
    · rw [hTn] at q; cases q
  refine ⟨fun b o eb _ q => ⟨o.slots, (Heap.get?_update_other _ _ (ne b o eb q)).trans eb, fun _ => rfl⟩, fun b o _ eb _ q => (Heap.get?_update_other _ _ (ne b o eb (.inr q))).trans eb, fun b o eb => ?_⟩
  by_cases hb : T = b
  · subst hb; rw [hT] at eb; cases eb; exact ⟨_, Heap.get?_update_self _ hT hfr⟩
  · exact ⟨o, (Heap.get?_update_other _ _ hb).trans eb⟩
theorem wp_noteFrame {Q : Unit → Shared → Prop} (hfr : A.frames = some fs) (ff : FF B s.heap fs) (top : ∃ env₀ outer, fs = env₀ :: outer ∧ env.frame = env₀.frame)
    (fly : Fly h s.heap e C) (dom : ∀ b o, h.get? b = some o → ∃ o', s.heap.get? b = some o') (hQ : ∀ h', KpE B h e s.heap h' → FlyT h h' e C → Q () { s with heap := h' }) :
    wpAny M A (noteFrame (.ref e) env) Q E s := by
  obtain ⟨L, hf⟩ : ∃ L, env.frame = some L := by
    obtain ⟨env₀, outer, rfl, hee⟩ := top
    obtain ⟨_, L, _, h1, _⟩ := ff env₀ (.head _)
    exact ⟨L, hee.trans h1⟩
  obtain ⟨hne, oe, vs, he, hc, hdn, hd, h2, ht⟩ := fly
  unfold noteFrame
  simp only [hf]
  rcases ht with h1 | ⟨T, oT, ts, h1, hTe, hTn, hT, hcT, hdT, h3⟩
  · refine wpAny_bind (wpAny_field he hd h1 ?_)
    rw [if_neg (by decide)]
    exact wp_entry hfr ff top hf hne dom he hc hdn hd (Array.getElem?_eq_some_iff.mp h1).1 h2 hQ
  · refine wpAny_bind (wpAny_field he hd h1 ?_)
    rw [if_pos (show (Value.ref T != Value.none) = true from by simp)]
    refine wpAny_bind (wpAny_field hT hdT (x := ts[3]) (by simp [h3]) ?_)
    by_cases hq : (ts[3] == rawInt L) = true
    · rw [if_pos hq]
      exact wpAny_pure (hQ s.heap (.refl ..) ⟨hne, oe, vs, T, oT, ts, he, hc, hdn, hd, h2, h1, hTe, hTn, hT, hcT, hdT, h3⟩)
    · rw [if_neg hq]
      refine wpAny_bind (wpAny_setField hT hdT h3 ?_)
      have kp : KpE B h e s.heap (s.heap.update T (Obj.mapFields (·.setIfInBounds 3 Value.none))) := upd_other hT hcT hdT hTn (Obj.isFreed_of_fields (Obj.data_mapFields hdT _))
      refine wp_entry (h := h) (fs := fs) (B := B) (s := { s with heap := s.heap.update T (Obj.mapFields (·.setIfInBounds 3 Value.none)) }) hfr (fun env' he' => ?_) top hf hne (fun b o q => ?_) ((Heap.get?_update_other _ _ hTe).trans he) hc hdn hd (Array.getElem?_eq_some_iff.mp h1).1 h2
        fun h' k f => hQ h' (kp.trans k) f
      · obtain ⟨a, L', o, b, c, d, es, n, k⟩ := ff env' he'
        refine ⟨a, L', o, b, c, (Heap.get?_update_other _ _ ?_).trans d, es, n, k⟩
        rintro rfl
        rw [hT] at d; cases d; rw [hdT] at k; cases k
      · obtain ⟨o', q'⟩ := dom b o q
        exact kp.dom b o' q'
theorem wp_setFlight {Q : Unit → Shared → Prop} {fr : Option Addr} (fly : FlyT h s.heap e C) (hQ : ∀ h', KpE B h e s.heap h' → FlyT h h' e C → Q () { s with heap := h' }) : wpAny M A (setFlight (.ref e) fr) Q E s := by
  obtain ⟨hne, oe, vs, T, oT, ts, he, hc, hdn, hd, h2, h1, hTe, hTn, hT, hcT, hdT, h3⟩ := fly
  unfold setFlight
  refine wpAny_bind (wpAny_field he hd h1 ?_)
  rw [if_pos (show (Value.ref T != Value.none) = true from by simp)]
  refine wpAny_setField hT hdT h3 (hQ _ (upd_other hT hcT hdT hTn (Obj.isFreed_of_fields (Obj.data_mapFields hdT _))) ?_)
  refine ⟨hne, oe, vs, T, _, _, (Heap.get?_update_other _ _ hTe).trans he, hc, hdn, hd, h2, h1, hTe, hTn, Heap.get?_update_self _ hT (Obj.isFreed_of_fields (Obj.data_mapFields hdT _)), (Obj.cls_mapFields _ _).trans hcT, Obj.data_mapFields hdT _, by simp [h3]⟩
theorem wp_leaving {Q : Unit → Shared → Prop} (hfr : A.frames = some fs) (ff : FF B s.heap fs) (top : ∃ env₀ outer, fs = env₀ :: outer ∧ env.frame = env₀.frame)
    (fly : Fly h s.heap e C) (dom : ∀ b o, h.get? b = some o → ∃ o', s.heap.get? b = some o') (hQ : ∀ h', KpE B h e s.heap h' → FlyT h h' e C → Q () { s with heap := h' }) :
    wpAny M A (leaving env (.ref e)) Q E s := by
  unfold leaving
  refine wpAny_bind (wp_noteFrame hfr ff top fly dom fun h₁ k₁ f₁ => ?_)
  exact wp_setFlight (s := { s with heap := h₁ }) (B := B) f₁ fun h₂ k₂ f₂ => hQ h₂ (k₁.trans k₂) f₂
end
end Mine
end

section
set_option Elab.async false
set_option maxRecDepth 100000
namespace Mine
open PySem
theorem KpE.carry {B h g h' : Heap} {e C : Addr} {S : Addr → Prop} (k : KpE B h e g h') (f : Fly h g e C) (f' : FlyT h h' e C) : Carry S g S h' where
  tup := fun e' hc hd => by
    obtain ⟨_, oe, vs, he, _, _, hde, _⟩ := f
    obtain ⟨sl, q, hs⟩ := k.keep _ _ e' (by rintro rfl; rw [he] at e'; cases e'; rw [hde] at hd; cases hd) (.inl (by rw [hc]; simp))
    rw [hs (.seq hd)] at q; exact q
  list := fun s e' hc hd => by
    refine ⟨s, ?_⟩
    obtain ⟨_, oe, vs, he, _, _, hde, _⟩ := f
    obtain ⟨sl, q, hs⟩ := k.keep _ _ e' (by rintro rfl; rw [he] at e'; cases e'; rw [hde] at hd; cases hd) (.inl (by rw [hc]; simp))
    rw [hs (.seq hd)] at q; exact q
  range := fun e' => by
    obtain ⟨_, oe, vs, he, hce, _⟩ := f
    obtain ⟨sl, q, hs⟩ := k.keep _ _ e' (by rintro rfl; unfold IsRange at e'; rw [he] at e'; cases e'; cases hce) (.inl (by simp))
    have hs := hs (.fields rfl)
    simp only at hs
    subst hs
    exact q
  exc := fun {a} {o} {vs} {C'} e' hc hn hd r => by
    by_cases ha : a = e
    · subst ha
      obtain ⟨_, oe, vs, he, hce, _⟩ := f
      rw [he] at e'; cases e'
      rw [hc] at hce; cases hce
      obtain ⟨_, oe', vs', _, _, _, h1, h2, hn', h3, h4, _⟩ := f'
      exact .exc h1 h2 hn' h3 h4
    · obtain ⟨sl, q, hs⟩ := k.keep _ _ e' ha (.inl (by rw [hc]; simp))
      rw [hs (.fields hd)] at q
      exact .exc q hc hn hd r
  dom := fun a o e' => k.dom a o e'
theorem RV.kpE {B h g h' : Heap} {e C : Addr} {S : Addr → Prop} (k : KpE B h e g h') (f : Fly h g e C) (f' : FlyT h h' e C) {v : Value} {d : D} (q : RV S g v d) : RV S h' v d := q.map (k.carry f f')
theorem RVs.kpE {B h g h' : Heap} {e C : Addr} {S : Addr → Prop} (k : KpE B h e g h') (f : Fly h g e C) (f' : FlyT h h' e C) {vs : List Value} {ds : List D} (q : RVs S g vs ds) : RVs S h' vs ds := q.map (k.carry f f')
section
variable {G : Gd} {cx : Cx} {sc : Scope} {ρ ρ₀ : AEnv} {S S₀ : Addr → Prop} {h g h' : Heap} {e C : Addr}
theorem KpE.ns (k : KpE G.B h e g h') (f : Fly h g e C) {a : Addr} {m : Str → Option Value} (hk : ∃ o, h.get? a = some o) (n : g.Ns a m) : h'.Ns a m := by
  obtain ⟨o, es, ep, ho, hd, r⟩ := n
  obtain ⟨_, oe, vs, he, _, _, hde, _⟩ := f
  obtain ⟨sl, q, _⟩ := k.keep a o ho (by rintro rfl; rw [he] at ho; cases ho; rw [hde] at hd; cases hd) (.inr hk)
  exact ⟨_, es, ep, q, hd, r⟩
theorem KpE.cell (k : KpE G.B h e g h') (f : Fly h g e C) {a : Addr} {v : Option Value} (hk : ∃ o, h.get? a = some o) (n : g.IsCell a v) : h'.IsCell a v := by
  obtain ⟨o, ho, hd⟩ := n
  obtain ⟨_, oe, vs, he, _, _, hde, _⟩ := f
  obtain ⟨sl, q, _⟩ := k.keep a o ho (by rintro rfl; rw [he] at ho; cases ho; rw [hde] at hd; cases hd) (.inr hk)
  exact ⟨_, q, hd⟩
theorem Rel.var_kpE (r₀ : Rel G cx sc ρ₀ S₀ h) (k : KpE G.B h e g h') (f : Fly h g e C) {x : Str} {v : Value} (q : Var cx.env g x v) : Var cx.env h' x v := by
  rcases q with ⟨a, m, b, c⟩ | ⟨a, c, b, d⟩
  · exact .inl ⟨a, m, k.ns f (let ⟨_, o, _, _, q, _⟩ := r₀.ns; ⟨o, q⟩) b, c⟩
  · exact .inr ⟨a, c, b, k.cell f (let ⟨_, o, q, _⟩ := r₀.cells x c b; ⟨o, q⟩) d⟩
theorem Rel.var_back (r₀ : Rel G cx sc ρ₀ S₀ h) (r : Rel G cx sc ρ S g) (k : KpE G.B h e g h') (f : Fly h g e C) {x : Str} {v : Value} (q : Var cx.env h' x v) : Var cx.env g x v := by
  rcases q with ⟨a, m, b, c⟩ | ⟨a, c, b, d⟩
  · obtain ⟨m₀, n₀⟩ := r.ns
    exact .inl ⟨a, m₀, n₀, by rw [(k.ns f (let ⟨_, o, _, _, q, _⟩ := r₀.ns; ⟨o, q⟩) n₀).agree b x]; exact c⟩
  · obtain ⟨v₀, i₀⟩ := r.cells x c b
    exact .inr ⟨a, c, b, by rw [IsCell.inj d (k.cell f (let ⟨_, o, q, _⟩ := r₀.cells x c b; ⟨o, q⟩) i₀)]; exact i₀⟩
theorem Rel.kpE (r₀ : Rel G cx sc ρ₀ S₀ h) (r : Rel G cx sc ρ S g) (k : KpE G.B h e g h') (f : Fly h g e C) (f' : FlyT h h' e C) : Rel G cx sc ρ S h' where
  base := fun b o q => k.base b o q (r.base b o q) (by rintro rfl; have := r₀.base _ _ q; rw [f.1] at this; cases this) ⟨o, r₀.base b o q⟩
  keep := fun b o q => by
    obtain ⟨sl, q₁, k₁⟩ := r.keep b o q
    obtain ⟨o₀, q₀⟩ := r₀.keep.dom q
    obtain ⟨sl', q₂, k₂⟩ := k.keep b _ q₁ (by rintro rfl; rw [f.1] at q₀; cases q₀) (.inr ⟨o₀, q₀⟩)
    exact ⟨sl', q₂, fun hn => (k₂ hn).trans (k₁ hn)⟩
  ff := fun env he => by
    obtain ⟨a, L, o, b, c, d, es, n, q⟩ := r.ff env he
    obtain ⟨_, L', o₀, b', _, d', _⟩ := r₀.ff env he
    rw [b] at b'; cases b'
    obtain ⟨sl', q₂, k₂⟩ := k.keep L _ d (by rintro rfl; rw [f.1] at d'; cases d') (.inr ⟨o₀, d'⟩)
    exact ⟨a, L, _, b, c, q₂, es, n, q⟩
  ns := let ⟨m, n⟩ := r.ns; ⟨m, k.ns f (let ⟨_, o, _, _, q, _⟩ := r₀.ns; ⟨o, q⟩) n⟩
  cells := fun x c q => let ⟨v, n⟩ := r.cells x c q; ⟨v, k.cell f (let ⟨_, o, q', _⟩ := r₀.cells x c q; ⟨o, q'⟩) n⟩
  sdom := fun b q => let ⟨o, e⟩ := r.sdom b q; k.dom b o e
  sok := r.sok
  sloc := r.sloc
  scell := r.scell
  live := fun x a hd q => let ⟨o, e⟩ := r.live x a hd (r₀.var_back r k f q); k.dom a o e
  clean := r.clean
  hok := fun v q => let ⟨C, e⟩ := r.hok v q; ⟨C, RV.kpE k f f' e⟩
  vars := fun i x t hx ht => by
    obtain ⟨v, hv, tv⟩ := r.vars i x t hx ht
    refine ⟨v, r₀.var_kpE k f hv, ?_⟩
    cases t with
    | sh d => exact RV.kpE k f f' tv
    | ow m d =>
      obtain ⟨a, rfl, ns, ow, n⟩ := tv
      refine ⟨a, rfl, ns, ?_, n⟩
      unfold OwnAt at ow ⊢
      split at ow
      · obtain ⟨vs, nn, q, rv⟩ := ow
        refine ⟨vs, nn, ?_, RVs.kpE k f f' rv⟩
        obtain ⟨_, oe, ws, he, _, _, hde, _⟩ := f
        obtain ⟨sl, q', hs⟩ := k.keep _ _ q (by rintro rfl; rw [he] at q; cases q; cases hde) (.inl (by simp))
        have := hs (.seq rfl)
        simp only at this
        subst this; exact q'
      · exact ow.elim
  inj := fun i j x y m m' d d' v hx hy hi hj a b => r.inj i j x y m m' d d' v hx hy hi hj (r₀.var_back r k f a) (r₀.var_back r k f b)
theorem Ext.kpE (x : Ext S₀ h S g) (k : KpE G.B h e g h') (f : Fly h g e C) : Ext S₀ h S h' :=
  ⟨x.sub, fun b o eb q => by
    obtain ⟨sl, e₁, k₁⟩ := x.keep b o eb q
    obtain ⟨sl', e₂, k₂⟩ := k.keep b _ e₁ (by rintro rfl; rw [f.1] at eb; cases eb) (.inr ⟨o, eb⟩)
    exact ⟨sl', e₂, fun hn => (k₂ hn).trans (k₁ hn)⟩, fun b o eb => let ⟨o', e'⟩ := x.dom b o eb; k.dom b o' e'⟩
end
structure FnCx (G : Gd) (cx : Cx) : Prop where
  bh : G.B.StaysIn cx.h₀
  lnew : cx.h₀.get? cx.env.locals = none
  cap : ∀ x y c, cx.env.cells.lookup x = some c → cx.env.cells.lookup y = some c → cx.h₀.get? c = none → x = y
  loc : ∀ x c, cx.env.cells.lookup x = some c → c ≠ cx.env.locals
section
variable {G : Gd} {cx : Cx} {sc : Scope} {ρ : AEnv} {S : Addr → Prop} {h h' : Heap}
theorem ext_but {loc : Addr} {oL : Obj} (e : h.get? loc = some oL) (hi : ¬ Imm oL) (hs : ¬ S loc) (k : Heap.SameBut loc h h') (e' : ∃ o, h'.get? loc = some o) : Ext S h S h' :=
  ⟨fun _ q => q, fun b o eb q => ⟨o.slots, (k.2 b (by rintro rfl; rw [e] at eb; cases eb; exact q.elim hs hi)).trans eb, fun _ => rfl⟩, fun b o eb => by
    by_cases hb : b = loc
    · subst hb; exact e'
    · exact ⟨o, (k.2 b hb).trans eb⟩⟩
theorem Rel.store {loc : Addr} {oL : Obj} {i : Nat} {x : Str} {v : Value} {t : T} (r : Rel G cx sc ρ S h) (bh : G.B.StaysIn cx.h₀) (nd : (varNames sc).Nodup) (hx : (varNames sc)[i]? = some x)
    (e : h.get? loc = some oL) (hi : ¬ Imm oL) (hq : ∀ vs n, oL.data ≠ .seq vs n) (hs : ¬ S loc) (hn : cx.h₀.get? loc = none) (k : Heap.SameBut loc h h')
    (e' : ∃ o, h'.get? loc = some o ∧ ((∃ es n, oL.data = .dict es n) → ∃ es n, o.data = .dict es n)) (ns : ∃ m, h'.Ns cx.env.locals m) (cl : ∀ y c, cx.env.cells.lookup y = some c → ∃ v, h'.IsCell c v)
    (hv : Var cx.env h' x v) (hb : ∀ y w, y ≠ x → Var cx.env h y w → Var cx.env h' y w) (hf : ∀ y w, y ≠ x → Var cx.env h' y w → Var cx.env h y w) (hcl : isDirty x = false ∨ ∃ d, t = .sh d) (tv : TTmp cx S h v t) :
    Rel G cx sc (ρ.set i (some t)) S h' ∧ Ext S h S h' := by
  obtain ⟨oL', eL', dL'⟩ := e'
  have x' : Ext S h S h' := ext_but e hi hs k ⟨_, eL'⟩
  have ow' : ∀ {a d}, OwnAt S h a d → OwnAt S h' a d := fun {a d} q => q.ext x' fun o eo => (k.2 a (by
    rintro rfl
    obtain ⟨o', ho', _, vs, n, hd⟩ := q.cls
    rw [e] at ho'; cases ho'; exact hq vs n hd)).trans eo
  have lt : i < (varNames sc).length := (List.getElem?_eq_some_iff.mp hx).1
  have neName : ∀ (j : Nat) (y : Str), (varNames sc)[j]? = some y → j ≠ i → y ≠ x := fun j y hy hj q => by
    subst q
    obtain ⟨h1, e1⟩ := List.getElem?_eq_some_iff.mp hx
    obtain ⟨h2, e2⟩ := List.getElem?_eq_some_iff.mp hy
    exact hj ((List.getElem_inj nd).mp (e2.trans e1.symm))
  have live : ∀ a, v = .ref a → ∃ o, h.get? a = some o := fun a ea => by
    cases t with
    | sh d => exact RV.live tv a ea
    | ow m d => obtain ⟨b, rfl, _, ow, _⟩ := tv; cases ea; obtain ⟨o, ho, _⟩ := ow.cls; exact ⟨o, ho⟩
  refine ⟨⟨fun b o q => (k.2 b (by rintro rfl; rw [bh _ _ q] at hn; cases hn)).trans (r.base b o q), fun b o q => ?_, fun env he => ?_, ns, cl, fun b q => let ⟨o, eo⟩ := r.sdom b q; x'.dom b o eo, r.sok, r.sloc, r.scell, fun y a hdy q => ?_, fun j y m d hy hj => ?_, fun v q => let ⟨C, e⟩ := r.hok v q; ⟨C, e.ext x'⟩, fun j y u hy hu => ?_, fun j l y z m m' d d' u hy hz hj hl a b => ?_⟩, x'⟩
  · obtain ⟨sl, q₁, k₁⟩ := r.keep b o q
    exact ⟨sl, (k.2 b (by rintro rfl; rw [q] at hn; cases hn)).trans q₁, k₁⟩
  · obtain ⟨a, L, o, b, c, d, es, n, q⟩ := r.ff env he
    by_cases hL : L = loc
    · subst hL
      rw [e] at d; cases d
      obtain ⟨es', n', q'⟩ := dL' ⟨es, n, q⟩
      exact ⟨a, L, _, b, c, eL', es', n', q'⟩
    · exact ⟨a, L, o, b, c, (k.2 L hL).trans d, es, n, q⟩
  · by_cases hy : y = x
    · subst hy
      obtain ⟨o, eo⟩ := live a (Var.inj hv q)
      exact x'.dom a o eo
    · obtain ⟨o, eo⟩ := r.live y a hdy (hf y _ hy q)
      exact x'.dom a o eo
  · by_cases hji : j = i
    · subst hji
      rw [hx] at hy; cases hy
      rcases hcl with hcl | ⟨d', rfl⟩
      · exact hcl
      · have hjl : j < ρ.length := by
          by_cases q : j < ρ.length
          · exact q
          · rw [List.getElem?_eq_none (by rw [List.length_set]; omega)] at hj; cases hj
        rw [List.getElem?_set_self hjl] at hj; cases hj
    · rw [List.getElem?_set_ne (Ne.symm hji)] at hj
      exact r.clean j y m d hy hj
  · by_cases hj : j = i
    · subst hj
      rw [hx] at hy; cases hy
      by_cases hl : j < ρ.length
      · rw [List.getElem?_set_self hl] at hu; cases hu
        refine ⟨v, hv, ?_⟩
        cases t with
        | sh d => exact RV.ext x' tv
        | ow m d => obtain ⟨a, rfl, n1, ow, n2, _⟩ := tv; exact ⟨a, rfl, n1, ow' ow, fun _ => n2⟩
      · rw [List.getElem?_eq_none (by rw [List.length_set]; omega)] at hu; cases hu
    · rw [List.getElem?_set_ne (Ne.symm hj)] at hu
      obtain ⟨w, hw, tw⟩ := r.vars j y u hy hu
      refine ⟨w, hb y w (neName j y hy hj) hw, ?_⟩
      cases u with
      | sh d => exact RV.ext x' tw
      | ow m d => obtain ⟨a, rfl, n1, ow, n2⟩ := tw; exact ⟨a, rfl, n1, ow' ow, n2⟩
  · by_cases hji : j = i <;> by_cases hli : l = i
    · rw [hji, hli]
    · exfalso
      subst hji
      rw [hx] at hy; cases hy
      rw [List.getElem?_set_ne (Ne.symm hli)] at hl
      have hjl : j < ρ.length := by
        by_cases q : j < ρ.length
        · exact q
        · rw [List.getElem?_eq_none (by rw [List.length_set]; omega)] at hj; cases hj
      rw [List.getElem?_set_self hjl] at hj; cases hj
      obtain ⟨a', rfl, _, _, _, nv⟩ := tv
      rw [Var.inj a hv] at b
      exact nv z (r.clean l z m' d' hz hl) (hf z _ (neName l z hz hli) b)
    · exfalso
      subst hli
      rw [hx] at hz; cases hz
      rw [List.getElem?_set_ne (Ne.symm hji)] at hj
      have hjl : l < ρ.length := by
        by_cases q : l < ρ.length
        · exact q
        · rw [List.getElem?_eq_none (by rw [List.length_set]; omega)] at hl; cases hl
      rw [List.getElem?_set_self hjl] at hl; cases hl
      obtain ⟨a', rfl, _, _, _, nv⟩ := tv
      rw [Var.inj b hv] at a
      exact nv y (r.clean j y m d hy hj) (hf y _ (neName j y hy hji) a)
    · rw [List.getElem?_set_ne (Ne.symm hji)] at hj
      rw [List.getElem?_set_ne (Ne.symm hli)] at hl
      exact r.inj j l y z m m' d d' u hy hz hj hl (hf y _ (neName j y hy hji) a) (hf z _ (neName l z hz hli) b)
theorem does_store {i : Nat} {x : Str} {v : Value} {t : T} {s : Shared} (ok : CxOk G cx sc 0) (fn : FnCx G cx) (r : Rel G cx sc ρ S s.heap) (hx : (varNames sc)[i]? = some x) (hk : sc.names.lookup x = some .local ∨ (sc.names.lookup x = some .cell ∧ ∃ c, cx.env.cells.lookup x = some c ∧ cx.h₀.get? c = none)) (hcl : isDirty x = false ∨ ∃ d, t = .sh d) (tv : TTmp cx S s.heap v t) :
    Does G cx sc false (storeName cx.env x v) S s (fun _ _ _ (_ : Unit) => True) (.ok () (ρ.set i (some t))) := by
  intro Q E out
  have hkf : cx.env.scope.kind = .function := by rw [ok.hsc]; exact ok.hk
  have kd : ∀ y, cx.env.kindOf y = sc.names.lookup y := fun y => by unfold Env.kindOf; rw [ok.hsc]
  rcases hk with hk | ⟨hk, hc⟩
  · obtain ⟨m, hm⟩ := r.ns
    have hm0 := hm
    obtain ⟨oL, es, ep, eL, dL, _⟩ := hm0
    refine wpAny_storeName_local ((kd x).trans hk) hm (fun h' n' k => ?_) (by rw [hkf]; rfl)
    have n'' := n'
    obtain ⟨oL', es', ep', eL', dL', _⟩ := n''
    have cellsame : ∀ y c, cx.env.cells.lookup y = some c → ∀ w, s.heap.IsCell c w → h'.IsCell c w := fun y c q w n => n.sameBut k (fn.loc y c q)
    have vx : Var cx.env h' x v := .inl ⟨(kd x).trans hk, _, n', by simp⟩
    obtain ⟨r', x'⟩ := r.store (loc := cx.env.locals) (i := i) (x := x) (v := v) (t := t) fn.bh ok.nodup hx eL (by rintro (⟨_, vs, n, q⟩ | ⟨vs, q⟩) <;> (rw [dL] at q; cases q)) (fun vs n q => by rw [dL] at q; cases q) r.sloc fn.lnew k
      ⟨oL', eL', fun _ => ⟨es', ep', dL'⟩⟩ ⟨_, n'⟩ (fun y c q => let ⟨w, n⟩ := r.cells y c q; ⟨w, cellsame y c q w n⟩) vx
      (fun y w hy q => by
        rcases q with ⟨a, m₁, b, c⟩ | ⟨a, c, b, d⟩
        · refine .inl ⟨a, _, n', ?_⟩
          rw [if_neg hy, ← b.agree hm y]; exact c
        · exact .inr ⟨a, c, b, cellsame y c b _ d⟩)
      (fun y w hy q => by
        rcases q with ⟨a, m₁, b, c⟩ | ⟨a, c, b, d⟩
        · refine .inl ⟨a, m, hm, ?_⟩
          have := b.agree n' y
          rw [if_neg hy] at this
          rw [← this]; exact c
        · obtain ⟨w₀, n₀⟩ := r.cells y c b
          exact .inr ⟨a, c, b, by rw [IsCell.inj d (cellsame y c b _ n₀)]; exact n₀⟩) hcl tv
    exact out () h' _ S r' trivial x' fun q => by cases q
  · obtain ⟨c, hc, hcn⟩ := hc
    obtain ⟨w₀, n₀⟩ := r.cells x c hc
    have n₁ := n₀
    obtain ⟨oL, eL, dL⟩ := n₁
    refine wpAny_storeName_cell hkf ((kd x).trans hk) hc n₀ (fun h' n' k => ?_)
    have n'' := n'
    obtain ⟨oL', eL', dL'⟩ := n''
    have hcloc : c ≠ cx.env.locals := fn.loc x c hc
    have nsame : ∀ m, s.heap.Ns cx.env.locals m → h'.Ns cx.env.locals m := fun m n => n.sameBut k (Ne.symm hcloc)
    have cellsame : ∀ y c', y ≠ x → cx.env.cells.lookup y = some c' → ∀ w, s.heap.IsCell c' w → h'.IsCell c' w := fun y c' hy q w n => n.sameBut k (by rintro rfl; exact hy (fn.cap y x c' q hc hcn))
    obtain ⟨r', x'⟩ := r.store (loc := c) (i := i) (x := x) (v := v) (t := t) fn.bh ok.nodup hx eL (by rintro (⟨_, vs, n, q⟩ | ⟨vs, q⟩) <;> (rw [dL] at q; cases q)) (fun vs n q => by rw [dL] at q; cases q) (r.scell x c hc) hcn k
      ⟨oL', eL', fun q => by obtain ⟨_, _, q⟩ := q; rw [dL] at q; cases q⟩ (let ⟨m, n⟩ := r.ns; ⟨m, nsame m n⟩)
      (fun y c' q => by
        by_cases hy : y = x
        · subst hy; rw [hc] at q; cases q; exact ⟨_, n'⟩
        · obtain ⟨w, n⟩ := r.cells y c' q; exact ⟨w, cellsame y c' hy q w n⟩) (.inr ⟨.inl ((kd x).trans hk), c, hc, n'⟩)
      (fun y w hy q => by
        rcases q with ⟨a, m₁, b, c'⟩ | ⟨a, c', b, d⟩
        · exact .inl ⟨a, m₁, nsame m₁ b, c'⟩
        · exact .inr ⟨a, c', b, cellsame y c' hy b _ d⟩)
      (fun y w hy q => by
        rcases q with ⟨a, m₁, b, c'⟩ | ⟨a, c', b, d⟩
        · obtain ⟨m₀, n₀⟩ := r.ns
          refine .inl ⟨a, m₀, n₀, ?_⟩
          rw [(nsame m₀ n₀).agree b y]; exact c'
        · obtain ⟨w₀, n₀⟩ := r.cells y c' b
          exact .inr ⟨a, c', b, by rw [IsCell.inj d (cellsame y c' hy b _ n₀)]; exact n₀⟩) hcl tv
    exact out () h' s.toks S r' trivial x' fun q => by cases q
end
end Mine
end

section
set_option Elab.async false
set_option maxRecDepth 100000
namespace Mine
open PySem
inductive Fl where
  | next
  | brk
  | cont
  | ret (t : T)
noncomputable def RTmp (cx : Cx) (S : Addr → Prop) (h : Heap) (v : Value) : T → Prop
  | .sh d => RV S h v d
  | .ow _ d => ∃ a, v = .ref a ∧ ¬ S a ∧ OwnAt S h a d ∧ cx.h₀.get? a = none
theorem TTmp.ret {cx : Cx} {S : Addr → Prop} {h : Heap} {v : Value} {t : T} (q : TTmp cx S h v t) : RTmp cx S h v t := by
  cases t with
  | sh d => exact q
  | ow m d => obtain ⟨a, e, n, o, k, _⟩ := q; exact ⟨a, e, n, o, k⟩
noncomputable def FlJ (cx : Cx) (S : Addr → Prop) (h : Heap) : Flow → Fl → Prop
  | .next, .next => True
  | .brk, .brk => True
  | .cont, .cont => True
  | .ret v, .ret t => RTmp cx S h v t
  | _, _ => False
structure FnOk (G : Gd) (cx : Cx) : Prop extends FnCx G cx where
  has : ∀ x, cx.env.kindOf x = some .cell → ∃ c, cx.env.cells.lookup x = some c ∧ cx.h₀.get? c = none
noncomputable def SimS (G : Gd) (k : Nat) (sc : Scope) (st : Stmt) (f : AEnv → Res Fl) : Prop :=
  ∀ cx, CxOk G cx sc k → FnOk G cx → ∀ ρ S s, Rel G cx sc ρ S s.heap → Does G cx sc false (exec st cx.env) S s (fun S' h' a b => FlJ cx S' h' a b) (f ρ)
noncomputable def SimSs (G : Gd) (k : Nat) (sc : Scope) (sts : List Stmt) (f : AEnv → Res Fl) : Prop :=
  ∀ cx, CxOk G cx sc k → FnOk G cx → ∀ ρ S s, Rel G cx sc ρ S s.heap → Does G cx sc false (execs sts cx.env) S s (fun S' h' a b => FlJ cx S' h' a b) (f ρ)
noncomputable def sNil : AEnv → Res Fl := fun ρ => .ok .next ρ
noncomputable def sSeq (f g : AEnv → Res Fl) : AEnv → Res Fl := fun ρ => (f ρ).bind fun fl ρ₁ => match fl with
  | .next => g ρ₁
  | fl => .ok fl ρ₁
noncomputable def sIf (t : AEnv → Res Bool) (a b : AEnv → Res Fl) : AEnv → Res Fl := fun ρ => (t ρ).bind fun c ρ₁ => if c then a ρ₁ else b ρ₁
noncomputable def sRet (f : AEnv → Res T) : AEnv → Res Fl := fun ρ => (f ρ).bind fun t ρ₁ => .ok (.ret t) ρ₁
noncomputable def sRetNone : AEnv → Res Fl := fun ρ => .ok (.ret (.sh .none)) ρ
noncomputable def sRetVar (i : Nat) : AEnv → Res Fl := fun ρ => match ρ[i]? with
  | some (some (.sh d)) => .ok (.ret (.sh d)) ρ
  | some (some (.ow true d)) => .ok (.ret (.ow true d)) ρ
  | _ => .stuck
noncomputable def sExpr (f : AEnv → Res Bv) : AEnv → Res Fl := fun ρ => (f ρ).bind fun _ ρ₁ => .ok .next ρ₁
noncomputable def sPass : AEnv → Res Fl := fun ρ => .ok .next ρ
noncomputable def sAssign (i : Nat) (f : AEnv → Res T) : AEnv → Res Fl := fun ρ => (f ρ).bind fun t ρ₁ => .ok .next (ρ₁.set i (some t))
section
variable {G : Gd} {k : Nat} {sc : Scope}
theorem simSs_nil : SimSs G k sc [] sNil := fun _ _ _ _ _ _ r => Does.pure r trivial
theorem simSs_cons {st : Stmt} {rest : List Stmt} {f g : AEnv → Res Fl} (h1 : SimS G k sc st f) (h2 : SimSs G k sc rest g) : SimSs G k sc (st :: rest) (sSeq f g) := by
  intro cx ok fn ρ S s r
  rw [execs_cons]
  refine Does.bind (h1 cx ok fn ρ S s r) fun fl ρ₁ a h₁ t₁ S₁ _ r₁ j x₁ v₁ => ?_
  cases a <;> cases fl <;> first | exact j.elim | exact h2 cx ok fn ρ₁ S₁ _ r₁ | exact Does.pure r₁ j
theorem simS_If {test : Expr} {body orelse : List Stmt} {pos : Pos} {t : AEnv → Res Bool} {a b : AEnv → Res Fl} (ht : SimT G k sc test t) (ha : SimSs G k sc body a) (hb : SimSs G k sc orelse b) : SimS G k sc (.If test body orelse pos) (sIf t a b) := by
  intro cx ok fn ρ S s r
  rw [exec_If]
  refine Does.standAt (Does.bind (ht cx ok ρ S s r).loose fun c ρ₁ a' h₁ t₁ S₁ _ r₁ j x₁ v₁ => ?_)
  subst j
  cases a'
  · exact hb cx ok fn ρ₁ S₁ _ r₁
  · exact ha cx ok fn ρ₁ S₁ _ r₁
theorem simS_Return {e : Expr} {pos : Pos} {f : AEnv → Res T} (h : Sim G k sc e f) : SimS G k sc (.Return (some e) pos) (sRet f) := by
  intro cx ok fn ρ S s r
  rw [exec_Return_some]
  refine Does.standAt (Does.bind (h cx ok ρ S s r).loose fun t ρ₁ v h₁ t₁ S₁ _ r₁ j x₁ v₁ => ?_)
  exact Does.pure r₁ j.ret
theorem simS_ReturnVar {x : Str} {p pos : Pos} {i : Nat} (hx : (varNames sc)[i]? = some x) (hd : (x == ("__debug__" : Str)) = false) (hn : (x == ("__classdict__" : Str)) = false) : SimS G k sc (.Return (some (.Name x p)) pos) (sRetVar i) := by
  intro cx ok fn ρ S s r
  rw [exec_Return_some]
  refine Does.standAt ?_
  intro Q E out
  unfold sRetVar at out
  split at out
  · rename_i d ht
    obtain ⟨v, hv, tv⟩ := r.vars i x _ hx ht
    exact wpAny_bind (wpAny_Name (sim_load (ok.mono (Nat.zero_le _)) hv hn rfl (wpAny_pure (out (.ret v) s.heap s.toks S r tv (Ext.refl ..) fun _ => VarSame.refl _ _))) hd)
  · rename_i d ht
    obtain ⟨v, hv, a, rfl, n1, ow, n2⟩ := r.vars i x _ hx ht
    exact wpAny_bind (wpAny_Name (sim_load (ok.mono (Nat.zero_le _)) hv hn rfl (wpAny_pure (out (.ret (.ref a)) s.heap s.toks S r ⟨a, rfl, n1, ow, n2 rfl⟩ (Ext.refl ..) fun _ => VarSame.refl _ _))) hd)
  · exact out.elim
theorem simS_Expr {e : Expr} {pos : Pos} {f : AEnv → Res Bv} (h : SimB G k sc e f) (hs : ∀ env : Env, swapsWith e none pos.line env = pure false) : SimS G k sc (.Expr e pos) (sExpr f) := by
  intro cx ok fn ρ S s r Q E out
  refine wpAny_Expr_any ?_ (by unfold interactive; rw [ok.hsc, ok.hk]; rfl) (hs cx.env)
  refine h cx ok ρ S s r _ _ ?_
  unfold sExpr at out
  cases hf : f ρ with
  | stuck => rw [hf] at out; exact out
  | exc C ρ' => rw [hf] at out; exact out
  | ok t ρ' => rw [hf] at out; intro v h' tk S' rel j x vs; exact out .next h' tk S' rel trivial x fun q => by cases q
theorem does_bindName {cx : Cx} {ρ : AEnv} {S : Addr → Prop} {i : Nat} {x : Str} {v : Value} {t : T} {s : Shared} (ok : CxOk G cx sc 0) (fn : FnOk G cx) (r : Rel G cx sc ρ S s.heap) (hx : (varNames sc)[i]? = some x) (hk : sc.names.lookup x = some .local ∨ sc.names.lookup x = some .cell) (hcl : isDirty x = false ∨ ∃ d, t = .sh d) (tv : TTmp cx S s.heap v t) :
    Does G cx sc false (bindName cx.env x v) S s (fun _ _ _ (_ : Unit) => True) (.ok () (ρ.set i (some t))) := by
  refine (does_store ok fn.toFnCx r hx (hk.imp id fun q => ⟨q, fn.has x (by unfold Env.kindOf; rw [ok.hsc]; exact q)⟩) hcl tv).wp fun Q E h => wpAny_bindName h
theorem simS_Assign {x : Str} {p pos : Pos} {value : Expr} {i : Nat} {f : AEnv → Res T} (h : Sim G k sc value f) (hx : (varNames sc)[i]? = some x) (hk : sc.names.lookup x = some .local ∨ sc.names.lookup x = some .cell)
    (hcl : isDirty x = false) (hs : ∀ env : Env, env.scope = sc → swapsWith value (some (.Name x p)) pos.line env = pure false) : SimS G k sc (.Assign [.Name x p] value pos) (sAssign i f) := by
  intro cx ok fn ρ S s r
  rw [exec_Assign_Name _ _ _ _ _ (hs cx.env ok.hsc)]
  refine Does.standAt (Does.bind (h cx ok ρ S s r).loose fun t ρ₁ v h₁ t₁ S₁ _ r₁ j x₁ v₁ => ?_)
  refine Does.standAt ?_
  intro Q E out
  refine wpAny_bind (does_bindName (s := { s with heap := h₁, toks := t₁ }) (ok.mono (Nat.zero_le _)) fn r₁ hx hk (.inl hcl) j _ _ ?_)
  intro _ h₂ t₂ S₂ r₂ _ x₂ v₂
  exact wpAny_pure (out .next h₂ t₂ S₂ r₂ trivial x₂ v₂)
end
noncomputable def whileN (t : AEnv → Res Bool) (b : AEnv → Res Fl) : Nat → AEnv → Res Fl
  | 0, _ => .stuck
  | n + 1, ρ => (t ρ).bind fun c ρ₁ => if c then (b ρ₁).bind fun fl ρ₂ => (match fl with
      | .next => whileN t b n ρ₂
      | .cont => whileN t b n ρ₂
      | .brk => .ok .next ρ₂
      | .ret t => .ok (.ret t) ρ₂) else .ok .next ρ₁
noncomputable def sWhile (n : Nat) (t : AEnv → Res Bool) (b : AEnv → Res Fl) : AEnv → Res Fl := whileN t b n
section
variable {G : Gd} {k : Nat} {sc : Scope} {cx : Cx} {ρ ρ₀ : AEnv} {S S₀ : Addr → Prop} {s₀ s : Shared}
theorem noted_out {C e : Addr} {E : Value → Shared → Prop} (ok : CxOk G cx sc k) (r₀ : Rel G cx sc ρ₀ S₀ s₀.heap) (r : Rel G cx sc ρ S s.heap) (x : Ext S₀ s₀.heap S s.heap) (f : Fly s₀.heap s.heap e C) (hs : ∃ h tk, s = { s₀ with heap := h, toks := tk })
    (hE : ∀ h' tk, Rel G cx sc ρ S h' → FlyT s₀.heap h' e C → Ext S₀ s₀.heap S h' → E (.ref e) { s₀ with heap := h', toks := tk }) : notedBy G.M cx.A cx.env E (.ref e) s := by
  obtain ⟨h, tk, rfl⟩ := hs
  unfold notedBy
  exact wp_noteFrame (B := G.B) ok.fr r.ff ok.top f x.dom fun h' k' f' => hE h' tk (r₀.kpE r k' f f') f' (x.kpE k' f)
theorem came_out {C e : Addr} {E : Value → Shared → Prop} (r₀ : Rel G cx sc ρ₀ S₀ s₀.heap) (r : Rel G cx sc ρ S s.heap) (x : Ext S₀ s₀.heap S s.heap) (f : FlyT s₀.heap s.heap e C) (hs : ∃ h tk, s = { s₀ with heap := h, toks := tk })
    (hE : ∀ h' tk, Rel G cx sc ρ S h' → FlyT s₀.heap h' e C → Ext S₀ s₀.heap S h' → E (.ref e) { s₀ with heap := h', toks := tk }) : cameBackBy G.M cx.A cx.env E (.ref e) s := by
  obtain ⟨h, tk, rfl⟩ := hs
  unfold cameBackBy
  have f0 := f
  obtain ⟨_, oe, vs, T, oT, ts, he, _, _, hd, _, h1, _⟩ := f0
  refine wpAny_bind (wpAny_field he hd h1 ?_)
  rw [if_neg (by simp)]
  exact wp_setFlight (B := G.B) f fun h' k' f' => hE h' tk (r₀.kpE r k' f.fly f') f' (x.kpE k' f.fly)
theorem simS_While {test : Expr} {body : List Stmt} {pos : Pos} {n : Nat} {t : AEnv → Res Bool} {b : AEnv → Res Fl} (ht : SimT G k sc test t) (hb : SimSs G k sc body b) : SimS G k sc (.While test body [] pos) (sWhile n t b) := by
  intro cx ok fn ρ S s r Q E out
  refine wpAny_While ?_
  refine codeAny_whileLoop (fun m s' => ∃ ρ' S', Rel G cx sc ρ' S' s'.heap ∧ Ext S s.heap S' s'.heap ∧ (∃ h tk, s' = { s with heap := h, toks := tk }) ∧ Out G cx sc false S s (fun S' h' a b => FlJ cx S' h' a b) Q E (whileN t b m ρ')) ?_ n ⟨ρ, S, r, Ext.refl .., ⟨s.heap, s.toks, rfl⟩, out⟩
  rintro m s' ⟨ρ', S', r', x', hs', out'⟩
  obtain ⟨h', tk', rfl⟩ := hs'
  cases m with
  | zero => exact out'.elim
  | succ m =>
    simp only [whileN] at out'
    have step := (ht cx ok ρ' S' { s with heap := h', toks := tk' } r').loose (same := false)
    refine step _ _ ?_
    cases h1 : t ρ' with
    | stuck => rw [h1] at out'; exact out'.elim
    | exc C ρ₁ =>
      rw [h1] at out'
      intro e h₁ t₁ S₁ r₁ f₁ x₁
      refine noted_out ok r r₁ (x'.trans x₁) (f₁.back x') ⟨h₁, t₁, rfl⟩ fun h₂ t₂ r₂ f₂ x₂ => ?_
      exact came_out r r₂ x₂ f₂ ⟨h₂, t₂, rfl⟩ fun h₃ t₃ r₃ f₃ x₃ => out' e h₃ t₃ S₁ r₃ f₃.fly x₃
    | ok c ρ₁ =>
      rw [h1] at out'
      intro a h₁ t₁ S₁ r₁ j₁ x₁ _
      subst j₁
      cases a with
      | false =>
        simp only [Bool.false_eq_true, if_false]
        exact wpAny_pure (out' .next h₁ t₁ S₁ r₁ trivial (x'.trans x₁) fun q => by cases q)
      | true =>
        simp only [if_true]
        refine hb cx ok fn ρ₁ S₁ { s with heap := h₁, toks := t₁ } r₁ _ _ ?_
        simp only [Res.bind, if_true] at out'
        cases h2 : b ρ₁ with
        | stuck => rw [h2] at out'; exact out'.elim
        | exc C ρ₂ =>
          rw [h2] at out'
          intro e h₂ t₂ S₂ r₂ f₂ x₂
          refine noted_out ok r r₂ ((x'.trans x₁).trans x₂) (f₂.back (x'.trans x₁)) ⟨h₂, t₂, rfl⟩ fun h₃ t₃ r₃ f₃ x₃ => ?_
          exact came_out r r₃ x₃ f₃ ⟨h₃, t₃, rfl⟩ fun h₄ t₄ r₄ f₄ x₄ => out' e h₄ t₄ S₂ r₄ f₄.fly x₄
        | ok fl ρ₂ =>
          rw [h2] at out'
          intro a h₂ t₂ S₂ r₂ j₂ x₂ _
          have xx := (x'.trans x₁).trans x₂
          cases a <;> cases fl <;> first
            | exact j₂.elim
            | exact ⟨m, Nat.lt_succ_self _, ρ₂, S₂, r₂, xx, ⟨h₂, t₂, rfl⟩, out'⟩
            | exact out' _ h₂ t₂ S₂ r₂ j₂ xx fun q => by cases q
end
end Mine
end

section
set_option Elab.async false
set_option maxRecDepth 100000
namespace Mine
open PySem
inductive FOut where
  | ok (t : T)
  | exc (C : Addr)
  | stuck
noncomputable def SDom (S : Addr → Prop) (h : Heap) : Prop := ∀ b, S b → ∃ o, h.get? b = some o
noncomputable def RetT (h : Heap) (S : Addr → Prop) (h' : Heap) (v : Value) : T → Prop
  | .sh d => RV S h' v d
  | .ow _ d => ∃ a, v = .ref a ∧ h.get? a = none ∧ ¬ S a ∧ OwnAt S h' a d
noncomputable def FEnd (G : Gd) (S : Addr → Prop) (s : Shared) (R : Result → Shared → Prop) : FOut → Prop
  | .ok t => ∀ v h' tk S', Kp s.heap h' → G.B.StaysIn h' → (∀ b, S b → S' b) → (∀ b, S' b → S b ∨ s.heap.get? b = none) → SDom S' h' → RetT s.heap S' h' v t → R (.ok (.ret v)) { s with heap := h', toks := tk }
  | .exc C => ∀ e h' tk, Kp s.heap h' → G.B.StaysIn h' → FlyT s.heap h' e C → R (.error (.ref e)) { s with heap := h', toks := tk }
  | .stuck => False
noncomputable def FnOK (G : Gd) (k : Nat) (g : Value) (F : List D → FOut) : Prop :=
  ∀ (A : Around) (fs : List Env) (S : Addr → Prop) (s : Shared) (vs : List Value) (ds : List D), Room A k → A.frames = some fs → (G.quiet = true → A.handled = none) → (∀ v, A.handled = some v → ∃ C, RV S s.heap v (.exc C)) → FF G.B s.heap fs → G.B.StaysIn s.heap → SDom S s.heap → RVs S s.heap vs ds →
    ∀ R, FEnd G S s R (F ds) → codeAny G.M A (.call g ⟨vs, []⟩) R s
noncomputable def initEnv (sc : Scope) (ps : List Str) (ds : List D) : AEnv := (varNames sc).map fun x => ((ps.zip ds).lookup x).map T.sh
noncomputable def finF : Res Fl → FOut
  | .ok (.ret t) _ => .ok t
  | .ok .next _ => .ok (.sh .none)
  | .ok _ _ => .stuck
  | .exc C _ => .exc C
  | .stuck => .stuck
noncomputable def runF (sc : Scope) (ps : List Str) (f : AEnv → Res Fl) (ds : List D) : FOut := if ds.length = ps.length then finF (f (initEnv sc ps ds)) else .stuck
theorem bindL_eq (K : Str → Option NameKind) : ∀ (binds : List (Str × Value)) (m : Str → Option Value) (y : Str), (binds.map (·.1)).Nodup → bindL K binds m y = if K y = some .local then (match binds.lookup y with | some v => some v | none => m y) else m y
  | [], m, y, _ => by simp [bindL]
  | (n, v) :: r, m, y, nd => by
    have nd' : n ∉ r.map (·.1) ∧ (r.map (·.1)).Nodup := by simpa using nd
    rw [bindL, bindL_eq K r _ y nd'.2]
    by_cases hy : y = n
    · subst hy
      have hn : r.lookup y = none := by
        rw [List.lookup_eq_none_iff]
        intro p hp
        have : p.1 ≠ y := fun q => nd'.1 (q ▸ List.mem_map_of_mem (f := (·.1)) hp)
        simpa using this.symm
      by_cases hk : K y = some .local
      · simp [hk, hn, List.lookup_cons]
      · simp [hk]
    · have hb : (y == n) = false := by simpa using hy
      by_cases hk : K y = some .local
      · rw [if_pos hk, if_pos hk, List.lookup_cons, hb]
        cases r.lookup y with
        | some w => rfl
        | none =>
          simp only
          split
          · simp [hy]
          · rfl
      · rw [if_neg hk, if_neg hk]
        split
        · simp [hy]
        · rfl
theorem bindC_eq (K : Str → Option NameKind) : ∀ (binds : List (Str × Value)) (m : Str → Option Value) (y : Str), (binds.map (·.1)).Nodup → bindC K binds m y = if K y = some .local then m y else (match binds.lookup y with | some v => some v | none => m y)
  | [], m, y, _ => by simp [bindC]
  | (n, v) :: r, m, y, nd => by
    have nd' : n ∉ r.map (·.1) ∧ (r.map (·.1)).Nodup := by simpa using nd
    rw [bindC, bindC_eq K r _ y nd'.2]
    by_cases hy : y = n
    · subst hy
      have hn : r.lookup y = none := by
        rw [List.lookup_eq_none_iff]
        intro p hp
        have : p.1 ≠ y := fun q => nd'.1 (q ▸ List.mem_map_of_mem (f := (·.1)) hp)
        simpa using this.symm
      by_cases hk : K y = some .local
      · simp [hk]
      · simp [hk, hn, List.lookup_cons]
    · have hb : (y == n) = false := by simpa using hy
      by_cases hk : K y = some .local
      · rw [if_pos hk, if_pos hk]
        split
        · rfl
        · simp [hy]
      · rw [if_neg hk, if_neg hk, List.lookup_cons, hb]
        cases r.lookup y with
        | some w => rfl
        | none =>
          simp only
          split
          · rfl
          · simp [hy]
theorem zip_lookup {S : Addr → Prop} {h : Heap} {y : Str} : ∀ {ps : List Str} {vs : List Value} {ds : List D}, RVs S h vs ds → ∀ {d : D}, (ps.zip ds).lookup y = some d → ∃ v, (ps.zip vs).lookup y = some v ∧ RV S h v d
  | [], _, _, _, d, e => by simp at e
  | p :: ps, _, _, .nil, d, e => by simp at e
  | p :: ps, _, _, .cons (v := v) q r, d, e => by
    rw [List.zip_cons_cons, List.lookup_cons] at e ⊢
    cases hb : y == p with
    | true => rw [hb] at e; cases e; exact ⟨v, rfl, q⟩
    | false => rw [hb] at e; exact zip_lookup r e
theorem zip_mem {y : Str} {v : Value} : ∀ {ps : List Str} {vs : List Value}, (ps.zip vs).lookup y = some v → v ∈ vs ∧ y ∈ ps
  | [], _, e => by simp at e
  | _ :: _, [], e => by simp at e
  | p :: ps, w :: vs, e => by
    rw [List.zip_cons_cons, List.lookup_cons] at e
    cases hb : y == p with
    | true => rw [hb] at e; cases e; exact ⟨.head _, by rw [beq_iff_eq.mp hb]; exact .head _⟩
    | false => rw [hb] at e; have := zip_mem e; exact ⟨.tail _ this.1, .tail _ this.2⟩
theorem map_fst_zip' {α β : Type} : ∀ (ps : List α) (vs : List β), vs.length = ps.length → (ps.zip vs).map (·.1) = ps
  | [], [], _ => rfl
  | p :: ps, v :: vs, h => by rw [List.zip_cons_cons, List.map_cons, map_fst_zip' ps vs (by simpa using h)]
  | [], _ :: _, h => by simp at h
  | _ :: _, [], h => by simp at h
theorem cells_some {x : Str} : ∀ (names : List (Str × NameKind)) (n : Nat) (acc : List (Str × Addr)), names.lookup x = some .cell ∨ (acc.lookup x).isSome = true → ((cellsFrom n names acc).lookup x).isSome = true
  | [], _, _, h => h.elim (fun e => by cases e) id
  | (y, k) :: r, n, acc, h => by
    unfold cellsFrom
    split
    · rename_i hk
      refine cells_some r (n + 1) ((y, n) :: acc) ?_
      cases hy : x == y with
      | true => exact .inr (by rw [List.lookup_cons, hy]; rfl)
      | false =>
        rcases h with h | h
        · rw [List.lookup_cons, hy] at h; exact .inl h
        · exact .inr (by rw [List.lookup_cons, hy]; exact h)
    · rename_i hk
      refine cells_some r n acc ?_
      cases hy : x == y with
      | true =>
        rcases h with h | h
        · rw [List.lookup_cons, hy] at h
          exact absurd (by rw [Option.some.inj h]; rfl) hk
        · exact .inr h
      | false =>
        rcases h with h | h
        · rw [List.lookup_cons, hy] at h; exact .inl h
        · exact .inr h
theorem fn_ok {G : Gd} (hG : G.Ok) {k : Nat} {a : Addr} {fo : Obj} {fd : FuncData} {body : List Stmt} {f : AEnv → Res Fl} {ps : List Str} (hfo : G.B.get? a = some fo) (hfd : fo.data = .func fd) (hcode : G.B.CodeRec fd.code fd.qualname) (hbody : fd.body = .stmts body) (hclo : fd.closure = [])
    (hgl : fd.globals = mainGlobals) (hbl : fd.builtins = builtinsNs) (hbind : ∀ vs : List Value, vs.length = ps.length → bindArgs fd ⟨vs, []⟩ = pure (ps.zip vs))
    (hps : ∀ x ∈ ps, fd.scope.names.lookup x = some .local ∨ fd.scope.names.lookup x = some .cell) (hpn : ps.Nodup) (hnd : (varNames fd.scope).Nodup) (hkind : fd.scope.kind = .function) (hco : fd.scope.isCoroutine = false) (hgen : fd.scope.isGenerator = false)
    (h : SimSs G k fd.scope body f) : FnOK G (k + 1) (.ref a) (runF fd.scope ps f) := by
  intro A fs S s vs ds room fr hd hok ff hB sd rv R fin
  unfold runF at fin
  split at fin
  rotate_left
  · exact fin.elim
  rename_i hlen
  have hvl : vs.length = ps.length := rv.length.trans hlen
  refine codeAny_call_cells (fd := fd) (binds := ps.zip vs) (by have := room.1; unfold recursionLimit; omega) (hB _ _ hfo) hfd (hG.nolimit.keeps hB) (let ⟨c, o, ws, t, e1, e2, e3, e4⟩ := hcode; ⟨c, o, ws, t, e1, hB _ _ e2, e3, e4⟩) hbody (hbind vs hvl) hclo
    (fun x hx => ?_) (fun s₁ X => ?_) hco hgen hkind
  · have hm : x.1 ∈ ps := by rw [← map_fst_zip' ps vs hvl]; exact List.mem_map_of_mem hx
    exact (hps _ hm).imp id fun q => ⟨q, cells_some _ _ _ (.inl q)⟩
  have D1 := X.toInCall.done
  obtain ⟨h₁, tk₁, rfl, hk₁⟩ := D1
  have nd : ((ps.zip vs).map (·.1)).Nodup := by rw [map_fst_zip' ps vs hvl]; exact hpn
  have hLn : s.heap.get? s.heap.objs.size = none := Heap.get?_none_of_le (Nat.le_refl _)
  have hBn : G.B.get? s.heap.objs.size = none := by
    cases q : G.B.get? s.heap.objs.size with
    | none => rfl
    | some o => rw [hB _ _ q] at hLn; cases hLn
  let cx : Cx := { A := A.deeper (callEnvC fd s.heap.objs.size a), env := callEnvC fd s.heap.objs.size a, fs := callEnvC fd s.heap.objs.size a :: fs, h₀ := s.heap, P := S }
  have ok : CxOk G cx fd.scope k := { hsc := rfl, hk := hkind, hg := hgl, hb := hbl, fr := by show (A.deeper _).frames = _; unfold Around.deeper; rw [fr]; rfl, top := ⟨_, fs, rfl, rfl⟩, hd := hd, room := ⟨by have := room.1; show A.depth + 1 + k ≤ 900; omega, by have := room.2; show A.units + 3 + 8 * k ≤ 9000; omega⟩, nodup := hnd }
  have above : ∀ x c, cx.env.cells.lookup x = some c → s.heap.objs.size < c := fun x c q => X.above x c (mem_of_lookup q)
  have fn : FnOk G cx := { bh := hB, lnew := hLn, cap := fun x y c q q' _ => name_of_addr X.apart (mem_of_lookup q) (mem_of_lookup q'), loc := fun x c q => Nat.ne_of_gt (above x c q), has := fun x q => let ⟨c, hc⟩ := Option.isSome_iff_exists.mp (cells_some _ _ _ (.inl q)); ⟨c, hc, Heap.get?_none_of_le (Nat.le_of_lt (above x c hc))⟩ }
  have vals : ∀ y v, Var cx.env h₁ y v → v ∈ vs := fun y v q => by
    rcases q with ⟨q1, m, n, e⟩ | ⟨q1, c, q2, n⟩
    · have := X.toInCall.ns.agree n y
      rw [e, bindL_eq _ _ _ _ nd, if_pos q1] at this
      cases hl : (ps.zip vs).lookup y with
      | none => rw [hl] at this; cases this
      | some w => rw [hl] at this; cases this; exact (zip_mem hl).1
    · have := IsCell.inj (X.cell y c q2) n
      rw [bindC_eq _ _ _ _ nd, if_neg (by show ¬ cx.env.kindOf y = some .local; rcases q1 with q | q <;> (rw [q]; decide))] at this
      cases hl : (ps.zip vs).lookup y with
      | none => rw [hl] at this; cases this
      | some w => rw [hl] at this; cases this; exact (zip_mem hl).1
  have r₀ : Rel G cx fd.scope (initEnv fd.scope ps ds) S h₁ := {
    base := fun b o q => hk₁ b o (hB b o q)
    keep := Kp.of_keeps hk₁
    ff := fun env he => by
      rcases List.mem_cons.mp he with rfl | he
      · obtain ⟨o, es, ep, q1, q2, _⟩ := X.toInCall.ns
        exact ⟨by show fd.scope.kind ≠ .module; rw [hkind]; decide, s.heap.objs.size, o, rfl, hBn, q1, es, ep, q2⟩
      · exact ff.kp (Kp.of_keeps hk₁) env he
    ns := ⟨_, X.toInCall.ns⟩
    cells := fun x c q => ⟨_, X.cell x c q⟩
    sdom := fun b q => let ⟨o, e⟩ := sd b q; ⟨o, hk₁ b o e⟩
    sok := fun b q => .inl q
    sloc := fun q => by obtain ⟨o, e⟩ := sd _ q; rw [show cx.env.locals = s.heap.objs.size from rfl, hLn] at e; cases e
    scell := fun x c q q' => by obtain ⟨o, e⟩ := sd _ q'; rw [show s.heap.get? c = none from Heap.get?_none_of_le (Nat.le_of_lt (above x c q))] at e; cases e
    live := fun x b _ q => by
      obtain ⟨d, _, rvd⟩ := rv.mem (vals x _ q)
      obtain ⟨o, e⟩ := rvd.live b rfl
      exact ⟨o, hk₁ b o e⟩
    clean := fun i x m d hx hi => by
      unfold initEnv at hi
      rw [List.getElem?_map, hx] at hi
      simp only [Option.map_some, Option.some.injEq] at hi
      cases hl : (ps.zip ds).lookup x with
      | none => rw [hl] at hi; cases hi
      | some d => rw [hl] at hi; cases hi
    hok := fun v q => let ⟨C, e⟩ := hok v q; ⟨C, e.ext (Ext.of_keeps hk₁)⟩
    vars := fun i x t hx ht => by
      unfold initEnv at ht
      rw [List.getElem?_map, hx] at ht
      simp only [Option.map_some, Option.some.injEq] at ht
      cases hl : (ps.zip ds).lookup x with
      | none => rw [hl] at ht; cases ht
      | some d =>
        rw [hl] at ht; cases ht
        obtain ⟨v, hv, rvd⟩ := zip_lookup rv hl
        refine ⟨v, ?_, rvd.ext (Ext.of_keeps hk₁)⟩
        rcases hps x (zip_mem hv).2 with q | q
        · refine .inl ⟨q, _, X.toInCall.ns, ?_⟩
          rw [bindL_eq _ _ _ _ nd, if_pos (show (callEnvC fd s.heap.objs.size a).kindOf x = some .local from q), hv]
        · obtain ⟨c, hc⟩ := Option.isSome_iff_exists.mp (cells_some fd.scope.names (s.heap.objs.size + 1) [] (.inl q) : ((cellsFrom (s.heap.objs.size + 1) fd.scope.names []).lookup x).isSome = true)
          refine .inr ⟨.inl q, c, hc, ?_⟩
          have := X.cell x c hc
          rw [bindC_eq _ _ _ _ nd, if_neg (show ¬ (callEnvC fd s.heap.objs.size a).kindOf x = some .local from by rw [show (callEnvC fd s.heap.objs.size a).kindOf x = some .cell from q]; decide), hv] at this
          exact this
    inj := fun i j x y m m' d d' v hx hy hi hj _ _ => by
      unfold initEnv at hi
      rw [List.getElem?_map, hx] at hi
      simp only [Option.map_some, Option.some.injEq] at hi
      cases hl : (ps.zip ds).lookup x with
      | none => rw [hl] at hi; cases hi
      | some d => rw [hl] at hi; cases hi }
  refine h cx ok fn (initEnv fd.scope ps ds) S { s with heap := h₁, toks := tk₁ } r₀ _ _ ?_
  cases hf : f (initEnv fd.scope ps ds) with
  | stuck => rw [hf] at fin; exact fin.elim
  | exc C ρ' =>
    rw [hf] at fin
    intro e h₂ t₂ S₂ r₂ f₂ x₂
    refine wp_leaving (B := G.B) (h := h₁) (s := { s with heap := h₂, toks := t₂ }) ok.fr r₂.ff ok.top f₂ x₂.dom fun h₃ k₃ f₃ => ?_
    have r₃ := r₀.kpE r₂ k₃ f₂ f₃
    refine fin e h₃ t₂ r₃.keep r₃.base ?_
    obtain ⟨n, oe, ws, T, oT, ts, a1, a2, a0, a3, a4, a5, a6, a7, a8⟩ := f₃
    have back : ∀ b, h₁.get? b = none → s.heap.get? b = none := fun b q => by
      cases q' : s.heap.get? b with
      | none => rfl
      | some o => rw [hk₁ b o q'] at q; cases q
    exact ⟨back e n, oe, ws, T, oT, ts, a1, a2, a0, a3, a4, a5, a6, back T a7, a8⟩
  | ok fl ρ' =>
    rw [hf] at fin
    intro v h₂ t₂ S₂ r₂ j₂ x₂ _
    have back : ∀ b, S₂ b → S b ∨ s.heap.get? b = none := r₂.sok
    cases v <;> cases fl <;> first
      | exact j₂.elim
      | exact fin.elim
      | exact fin .none h₂ t₂ S₂ r₂.keep r₂.base x₂.sub back r₂.sdom .none
      | skip
    rename_i v t
    refine fin v h₂ t₂ S₂ r₂.keep r₂.base x₂.sub back r₂.sdom ?_
    cases t with
    | sh d => exact j₂
    | ow m d => obtain ⟨b, e, n1, ow, n2⟩ := j₂; exact ⟨b, e, n2, n1, ow⟩
end Mine
end

section
set_option Elab.async false
set_option maxRecDepth 100000
namespace Mine
open PySem
inductive BVals (cx : Cx) (sc : Scope) (S : Addr → Prop) (h : Heap) : List Value → List Bv → Prop
  | nil : BVals cx sc S h [] []
  | cons {v : Value} {b : Bv} {vs : List Value} {bs : List Bv} : BVal cx sc S h v b → BVals cx sc S h vs bs → BVals cx sc S h (v :: vs) (b :: bs)
noncomputable def SimBs (G : Gd) (k : Nat) (sc : Scope) (es : List Expr) (f : AEnv → Res (List Bv)) : Prop :=
  ∀ pos cx, CxOk G cx sc k → ∀ ρ S s, Rel G cx sc ρ S s.heap → Does G cx sc true (spliced (backTo pos (starEach es cx.env))) S s (fun S' h' vs bs => BVals cx sc S' h' vs bs) (f ρ)
noncomputable def eNilB : AEnv → Res (List Bv) := fun ρ => .ok [] ρ
noncomputable def eConsB (f : AEnv → Res Bv) (g : AEnv → Res (List Bv)) : AEnv → Res (List Bv) := fun ρ => (f ρ).bind fun b ρ₁ => (g ρ₁).bind fun bs ρ₂ => .ok (b :: bs) ρ₂
theorem simBs_nil {G : Gd} {k : Nat} {sc : Scope} : SimBs G k sc [] eNilB := fun _ _ _ _ _ _ r => Does.pure r .nil
theorem simBs_cons {G : Gd} {k : Nat} {sc : Scope} {e : Expr} {rest : List Expr} {f : AEnv → Res Bv} {g : AEnv → Res (List Bv)} (he : SimB G k sc e f) (hr : SimBs G k sc rest g) (hs : unstarred e = true) : SimBs G k sc (e :: rest) (eConsB f g) := by
  intro pos cx ok ρ S s r
  rw [spliced_items hs]
  refine Does.bind (he cx ok ρ S s r) fun b ρ₁ v h₁ t₁ S₁ _ r₁ j₁ x₁ v₁ => ?_
  intro Q E out
  refine wpAny_bind (wpAny_pure ?_)
  refine (Does.bind (J' := fun S' h' vs bs => BVals cx sc S' h' vs bs) (Does.holding (hr pos cx ok ρ₁ S₁ { s with heap := h₁, toks := t₁ } r₁)) fun bs ρ₂ vs h₂ t₂ S₂ _ r₂ j₂ x₂ v₂ => ?_) Q E out
  exact Does.pure r₂ (.cons (BVal.ext j₁ x₂ (v₂ rfl)) j₂)
noncomputable def getAll (ρ : AEnv) : List Bv → Option (List D)
  | [] => some []
  | b :: bs => match b.get ρ, getAll ρ bs with
    | some d, some ds => some (d :: ds)
    | _, _ => none
noncomputable def isShared (ρ : AEnv) : Bv → Bool
  | .val _ => true
  | .var i => match ρ[i]? with
    | some (some (.sh _)) => true
    | _ => false
mutual
noncomputable def listFree : D → Bool
  | .list _ => false
  | .tup ds => listFrees ds
  | _ => true
noncomputable def listFrees : List D → Bool
  | [] => true
  | d :: ds => listFree d && listFrees ds
end
mutual
theorem RV.free {S S' : Addr → Prop} {h : Heap} : ∀ {v : Value} {d : D}, RV S h v d → listFree d = true → RV S' h v d
  | _, _, .none, _ => .none
  | _, _, .bool b, _ => .bool b
  | _, _, .int i t, _ => .int i t
  | _, _, .str y t, _ => .str y t
  | _, _, .tup e hc hd r, q => .tup e hc hd (RVs.free r (by rw [listFree] at q; exact q))
  | _, _, .list .., q => by rw [listFree] at q; cases q
  | _, _, .range e, _ => .range e
  | _, _, .exc e hc hn hd r, _ => .exc e hc hn hd r
  | _, _, .glob v hv, _ => .glob v hv
theorem RVs.free {S S' : Addr → Prop} {h : Heap} : ∀ {vs : List Value} {ds : List D}, RVs S h vs ds → listFrees ds = true → RVs S' h vs ds
  | _, _, .nil, _ => .nil
  | _, _, .cons q r, e => by
    rw [listFrees] at e
    obtain ⟨e1, e2⟩ := Bool.and_eq_true_iff.mp e
    exact .cons (RV.free q e1) (RVs.free r e2)
end
section
variable {G : Gd} {cx : Cx} {sc : Scope} {ρ : AEnv} {S S' : Addr → Prop} {h h' : Heap}
theorem BVals.rvs {vs : List Value} {bs : List Bv} (q : BVals cx sc S h vs bs) (r : Rel G cx sc ρ S h) (hs : bs.all (isShared ρ) = true) : ∀ {ds : List D}, getAll ρ bs = some ds → RVs S h vs ds := by
  induction q with
  | nil => intro ds e; cases e; exact .nil
  | cons hb _ ih =>
    intro ds e
    rename_i v b vs bs _
    rw [getAll] at e
    rw [List.all_cons, Bool.and_eq_true_iff] at hs
    split at e
    · rename_i d ds' hd hds
      cases e
      refine .cons ?_ (ih hs.2 hds)
      cases b with
      | val d' => cases hd; exact hb
      | var i =>
        obtain ⟨y, hy, hv⟩ := hb
        have h1 := hs.1
        simp only [isShared] at h1
        simp only [Bv.get] at hd
        split at h1
        · rename_i d' ht
          rw [ht] at hd
          cases hd
          obtain ⟨w, hw, tv⟩ := r.vars i y _ hy ht
          rw [Var.inj hv hw]; exact tv
        · cases h1
    · cases e
theorem BVals.dom {vs : List Value} {bs : List Bv} (q : BVals cx sc S h vs bs) (r : Rel G cx sc ρ S h) : ∀ {ds : List D}, getAll ρ bs = some ds → RVs (fun b => ∃ o, h.get? b = some o) h vs ds := by
  induction q with
  | nil => intro ds e; cases e; exact .nil
  | cons hb _ ih =>
    intro ds e
    rename_i v b vs bs _
    rw [getAll] at e
    split at e
    · rename_i d ds' hd hds
      cases e
      refine .cons ?_ (ih hds)
      cases hb.rb r hd with
      | of q => exact q.ext (Ext.grow r.sdom)
      | own q =>
        unfold OwnAt at q
        split at q
        · obtain ⟨vs, n, e, rv⟩ := q; exact .list ⟨_, e⟩ e rfl rfl (rv.ext (Ext.grow r.sdom))
        · exact q.elim
    · cases e
theorem Rel.kpS (r : Rel G cx sc ρ S h) (k : Kp h h') (hb : G.B.StaysIn h') (sub : ∀ b, S b → S' b) (new : ∀ b, S' b → S b ∨ h.get? b = none) (sd : SDom S' h') : Rel G cx sc ρ S' h' ∧ Ext S h S' h' := by
  have x : Ext S h S' h' := ⟨sub, fun b o e _ => k b o e, fun b o e => k.dom e⟩
  have r' := r.kp k hb
  refine ⟨⟨hb, r'.keep, r'.ff, r'.ns, r'.cells, sd, fun b q => ?_, fun q => ?_, fun y c e q => ?_, r'.live, r'.clean, fun v q => let ⟨C, e⟩ := r.hok v q; ⟨C, e.ext x⟩, fun i y t hy ht => ?_, r'.inj⟩, x⟩
  · exact (new b q).elim (r.sok b) fun q => .inr (r.keep.none q)
  · rcases new _ q with q | q
    · exact r.sloc q
    · obtain ⟨m, o, _, _, e, _⟩ := r.ns; rw [q] at e; cases e
  · rcases new _ q with q | q
    · exact r.scell y c e q
    · obtain ⟨v, o, e', _⟩ := r.cells y c e; rw [q] at e'; cases e'
  · obtain ⟨v, hv, tv⟩ := r.vars i y t hy ht
    refine ⟨v, hv.kp k, ?_⟩
    cases t with
    | sh d => exact RV.ext x tv
    | ow m d =>
      obtain ⟨a, rfl, n1, ow, n2⟩ := tv
      obtain ⟨o, ho, hc, vs, n, hd⟩ := ow.cls
      refine ⟨a, rfl, fun q => ?_, ow.ext x fun o' e' => k.exact e' (by rw [ho] at e'; cases e'; exact .seq hd), n2⟩
      rcases new _ q with q | q
      · exact n1 q
      · rw [q] at ho; cases ho
end
noncomputable def callEnd (bs : List Bv) (ρ : AEnv) : FOut → Res T
  | .ok t => if bs.all (isShared ρ) then .ok t ρ else if listFree t.val then .ok (.sh t.val) ρ else .stuck
  | .exc C => .exc C ρ
  | .stuck => .stuck
noncomputable def eCall (F : List D → FOut) (fa : AEnv → Res (List Bv)) : AEnv → Res T := fun ρ => (fa ρ).bind fun bs ρ₁ => match getAll ρ₁ bs with
  | some ds => callEnd bs ρ₁ (F ds)
  | none => .stuck
section
variable {G : Gd} {k : Nat} {sc : Scope}
theorem does_callV {cx : Cx} {ρ : AEnv} {S : Addr → Prop} {s : Shared} {g : Value} {F : List D → FOut} {vs : List Value} {bs : List Bv} {ds : List D} {k' : Nat} (hF : FnOK G k' g F) (ok : CxOk G cx sc k) (hk : k' ≤ k) (r : Rel G cx sc ρ S s.heap) (q : BVals cx sc S s.heap vs bs) (e : getAll ρ bs = some ds) :
    Does G cx sc true (call g vs []) S s (fun S' h' v t => TTmp cx S' h' v t) (callEnd bs ρ (F ds)) := by
  intro Q E out
  refine wpAny_call ?_
  by_cases hs : bs.all (isShared ρ) = true
  · refine hF cx.A cx.fs S s vs ds (ok.room.mono hk) ok.fr ok.hd r.hok r.ff r.base r.sdom (q.rvs r hs e) _ ?_
    cases hf : F ds with
    | stuck => rw [hf] at out; exact out.elim
    | exc C =>
      rw [hf] at out
      intro ee h' tk kp hb fl
      exact out ee h' tk S (r.kp kp hb) fl.fly (Ext.of_kp kp)
    | ok t =>
      rw [hf] at out
      simp only [callEnd] at out
      rw [if_pos hs] at out
      intro v h' tk S' kp hb sub new sd ret
      obtain ⟨r', x'⟩ := r.kpS kp hb sub new sd
      refine out v h' tk S' r' ?_ x' fun _ => r.same kp
      cases t with
      | sh d => exact ret
      | ow m d =>
        obtain ⟨a, rfl, n1, n2, ow⟩ := ret
        refine ⟨a, rfl, n2, ow, r.keep.none n1, fun x hdx hx => ?_⟩
        obtain ⟨o, ho⟩ := r.live x a hdx (Var.of_kp kp r.ns r.cells hx)
        rw [n1] at ho; cases ho
  · refine hF cx.A cx.fs (fun b => ∃ o, s.heap.get? b = some o) s vs ds (ok.room.mono hk) ok.fr ok.hd (fun v q => let ⟨C, e⟩ := r.hok v q; ⟨C, e.ext (Ext.grow r.sdom)⟩) r.ff r.base (fun _ q => q) (q.dom r e) _ ?_
    cases hf : F ds with
    | stuck => rw [hf] at out; exact out.elim
    | exc C =>
      rw [hf] at out
      intro ee h' tk kp hb fl
      exact out ee h' tk S (r.kp kp hb) fl.fly (Ext.of_kp kp)
    | ok t =>
      rw [hf] at out
      simp only [callEnd] at out
      rw [if_neg hs] at out
      split at out
      · rename_i hfree
        intro v h' tk S' kp hb sub new sd ret
        refine out v h' tk S (r.kp kp hb) ?_ (Ext.of_kp kp) fun _ => r.same kp
        cases t with
        | sh d => exact RV.free ret hfree
        | ow m d =>
          obtain ⟨a, rfl, n1, n2, ow⟩ := ret
          exfalso
          unfold OwnAt at ow
          split at ow
          · simp [T.val, listFree] at hfree
          · exact ow
      · exact out.elim
theorem evalArgs_any {M : Model} {A : Around} {E : Value → Shared → Prop} {s : Shared} {env : Env} {pos : Pos} {f : Value} {es : List Expr} {Q : Args → Shared → Prop} (hu : es.all unstarred = true)
    (h : wpAny M A (spliced (backTo pos (starEach es env))) (fun vs s' => Q ⟨vs, []⟩ s') E s) : wpAny M A (evalArgs f true (backTo pos (starEach es env)) []) Q E s := by
  cases es with
  | nil =>
    unfold evalArgs
    show wpAny M A (spliced [] >>= _) Q E s
    refine wpAny_bind (wpAny_mono h (fun vs s' h' => ?_) fun _ _ x => x)
    refine wpAny_holding ?_
    exact wpAny_bind (wpAny_pure (wpAny_bind (wpAny_pure (wpAny_pure h'))))
  | cons e rest =>
    rw [List.all_cons, Bool.and_eq_true_iff] at hu
    rw [starEach_cons hu.1] at h ⊢
    exact Calls.evalArgs_plain h
theorem sim_call {g : Str} {p pos : Pos} {a : Addr} {fo : Obj} {fd : FuncData} {F : List D → FOut} {args : List Expr} {fa : AEnv → Res (List Bv)} {k' : Nat} (hn : Sim G k sc (.Name g p) (eConst (.glob (.ref a)))) (hfo : G.B.get? a = some fo) (hfd : fo.data = .func fd)
    (hF : FnOK G k' (.ref a) F) (hk : k' ≤ k) (ha : SimBs G k sc args fa) (hu : args.all unstarred = true) : Sim G k sc (.Call (.Name g p) args [] pos) (eCall F fa) := by
  intro cx ok ρ S s r Q E out
  show wpAny G.M cx.A (do callWith pos (← eval (.Name g p) cx.env) [] (backTo pos (starEach args cx.env)) []) Q E s
  refine wpAny_bind (hn cx ok ρ S s r _ _ ?_)
  intro v h₁ t₁ S₁ r₁ j₁ x₁ v₁
  have hv : v = .ref a := by cases j₁; rfl
  subst hv
  refine Calls.callWith_function (o := fo) (fd := fd) (evalArgs_any hu ?_)
  refine ha pos cx ok ρ S₁ { s with heap := h₁, toks := t₁ } r₁ _ _ ?_
  unfold eCall at out
  cases hfa : fa ρ with
  | stuck => rw [hfa] at out; exact out.elim
  | exc C ρ' => rw [hfa] at out; intro e h₂ t₂ S₂ r₂ f₂ x₂; exact out e h₂ t₂ S₂ r₂ (f₂.back x₁) (x₁.trans x₂)
  | ok bs ρ' =>
    rw [hfa] at out
    simp only [Res.bind] at out
    intro vs h₂ t₂ S₂ r₂ j₂ x₂ v₂
    refine ⟨⟨r₂.base _ _ hfo, hfd⟩, ?_⟩
    split at out
    · rename_i ds hds
      refine does_callV (s := { s with heap := h₂, toks := t₂ }) hF ok hk r₂ j₂ hds Q E ?_
      cases hc : callEnd bs ρ' (F ds) with
      | stuck => rw [hc] at out; exact out
      | exc C ρ'' => rw [hc] at out; intro e h₃ t₃ S₃ r₃ f₃ x₃; exact out e h₃ t₃ S₃ r₃ (f₃.back (x₁.trans x₂)) ((x₁.trans x₂).trans x₃)
      | ok t ρ'' => rw [hc] at out; intro w h₃ t₃ S₃ r₃ j₃ x₃ v₃; exact out w h₃ t₃ S₃ r₃ j₃ ((x₁.trans x₂).trans x₃) fun q => ((v₁ q).trans (v₂ q)).trans (v₃ q)
    · exact out.elim
end
end Mine
end

section
set_option Elab.async false
set_option maxRecDepth 100000
namespace Mine
open PySem
inductive RBs (S : Addr → Prop) (h : Heap) : List Value → List D → Prop
  | nil : RBs S h [] []
  | cons {v : Value} {d : D} {vs : List Value} {ds : List D} : RB S h v d → RBs S h vs ds → RBs S h (v :: vs) (d :: ds)
theorem BVals.all {G : Gd} {cx : Cx} {sc : Scope} {ρ : AEnv} {S : Addr → Prop} {h : Heap} {vs : List Value} {bs : List Bv} (q : BVals cx sc S h vs bs) (r : Rel G cx sc ρ S h) : ∀ {ds : List D}, getAll ρ bs = some ds → RBs S h vs ds := by
  induction q with
  | nil => intro ds e; cases e; exact .nil
  | cons hb _ ih =>
    intro ds e
    rw [getAll] at e
    split at e
    · rename_i d ds' hd hds
      cases e
      exact .cons (hb.rb r hd) (ih hds)
    · cases e
noncomputable def OpN (G : Gd) (m : List Value → Sem Value) (F : List D → Option T) : Prop :=
  ∀ cx sc, CxOk G cx sc 0 → ∀ ρ S s vs ds t, Rel G cx sc ρ S s.heap → RBs S s.heap vs ds → F ds = some t → Does G cx sc true (m vs) S s (fun S' h' v t => TTmp cx S' h' v t) (.ok t ρ)
noncomputable def eOpN (F : List D → Option T) (fa : AEnv → Res (List Bv)) : AEnv → Res T := fun ρ => (fa ρ).bind fun bs ρ₁ => match getAll ρ₁ bs with
  | some ds => (match F ds with | some t => .ok t ρ₁ | none => .stuck)
  | none => .stuck
theorem callWith_plain {M : Model} {A : Around} {E : Value → Shared → Prop} {s : Shared} {pos : Pos} {f : Value} {first : List Value} {args : List (Bool × Sem Value)} {Q : Value → Shared → Prop} (hf : ∀ a, f ≠ .ref a) (hplain : args.any (·.1) = false)
    (h : wpAny M A (evalArgs f true args []) (fun a s₁ => wpAny M A (call f (first ++ a.pos) a.kw) Q E s₁) E s) : wpAny M A (callWith pos f first args []) Q E s := by
  unfold callWith
  refine wpAny_bind (wpAny_holding (wpAny_mono h (fun a s₁ h₁ => wpAny_bind (wpAny_standAt ?_)) fun _ _ x => x))
  simp only [hplain, List.any_nil, Bool.or_false]
  have hk : keeperOf f = pure .machine := by
    unfold keeperOf
    cases f <;> first | rfl | exact absurd rfl (hf _)
  rw [hk]
  refine wpAny_bind (wpAny_pure ?_)
  exact wpAny_bind (wpAny_mono h₁ (fun r s₂ hr => wpAny_bind (wpAny_holding (wpAny_point (wpAny_pure hr)))) fun _ _ x => x)
theorem star_plain {pos : Pos} {env : Env} : ∀ (es : List Expr), es.all unstarred = true → (backTo pos (starEach es env)).any (·.1) = false
  | [], _ => rfl
  | e :: r, h => by
    rw [List.all_cons, Bool.and_eq_true_iff] at h
    rw [starEach_cons h.1]
    show (false || (backTo pos (starEach r env)).any (·.1)) = false
    rw [star_plain r h.2]; rfl
section
variable {G : Gd} {k : Nat} {sc : Scope}
theorem sim_callB {g : Str} {p pos : Pos} {f : Value} {F : List D → Option T} {args : List Expr} {fa : AEnv → Res (List Bv)} (hn : Sim G k sc (.Name g p) (eConst (.glob f))) (hf : ∀ a, f ≠ .ref a) (hop : OpN G (fun vs => call f vs []) F)
    (ha : SimBs G k sc args fa) (hu : args.all unstarred = true) : Sim G k sc (.Call (.Name g p) args [] pos) (eOpN F fa) := by
  intro cx ok ρ S s r Q E out
  show wpAny G.M cx.A (do callWith pos (← eval (.Name g p) cx.env) [] (backTo pos (starEach args cx.env)) []) Q E s
  refine wpAny_bind (hn cx ok ρ S s r _ _ ?_)
  intro v h₁ t₁ S₁ r₁ j₁ x₁ v₁
  have hv : v = f := by cases j₁; rfl
  subst hv
  refine callWith_plain hf (star_plain args hu) (evalArgs_any hu ?_)
  refine ha pos cx ok ρ S₁ { s with heap := h₁, toks := t₁ } r₁ _ _ ?_
  unfold eOpN at out
  cases hfa : fa ρ with
  | stuck => rw [hfa] at out; exact out.elim
  | exc C ρ' => rw [hfa] at out; intro e h₂ t₂ S₂ r₂ f₂ x₂; exact out e h₂ t₂ S₂ r₂ (f₂.back x₁) (x₁.trans x₂)
  | ok bs ρ' =>
    rw [hfa] at out
    simp only [Res.bind] at out
    intro vs h₂ t₂ S₂ r₂ j₂ x₂ v₂
    split at out
    · rename_i ds hds
      split at out
      · rename_i t ht
        refine hop cx sc (ok.mono (Nat.zero_le _)) ρ' S₂ { s with heap := h₂, toks := t₂ } vs ds t r₂ (BVals.all j₂ r₂ hds) ht Q E ?_
        intro w h₃ t₃ S₃ r₃ j₃ x₃ v₃
        exact out w h₃ t₃ S₃ r₃ j₃ ((x₁.trans x₂).trans x₃) fun q => ((v₁ q).trans (v₂ q)).trans (v₃ q)
      · exact out.elim
    · exact out.elim
end
noncomputable def isInstD (K : W.Frag) : D → Value → Option Bool
  | .none, c => W.kitOne [] (.type "NoneType") c
  | .bool _, c => W.kitOne [] (.type "bool") c
  | .int _, c => W.kitOne [] (.type "int") c
  | .str _, c => W.kitOne [] (.type "str") c
  | .tup _, c => W.kitOne [] (.type "tuple") c
  | .list _, c => W.kitOne [] (.type "list") c
  | .exc C, c => if excAsk K C then W.kitOne K (.ref C) c else none
  | _, _ => none
noncomputable def isInstI (K : W.Frag) : List D → Option T
  | [x, .glob c] => (isInstD K x c).map fun b => .sh (.bool b)
  | _ => none
theorem op_isinstance {G : Gd} (hG : G.Ok) : OpN G (fun vs => call (.builtin "isinstance") vs []) (isInstI G.K) := by
  intro cx sc ok ρ S s vs ds t rel q e Q E out
  unfold isInstI at e
  split at e
  · rename_i x c
    obtain ⟨b, hb, rfl⟩ := Option.map_eq_some_iff.mp e
    cases q with
    | cons qx q =>
      cases q with
      | cons qc q =>
        cases q
        have hc := qc.rv fun _ e => by cases e
        cases hc
        have nil : W.Frag.In [] s.heap := fun _ _ e => by cases e
        have fin : ∀ tk, Q (.bool b) { s with toks := tk } := fun tk => out_sh out rel (.bool _)
        cases x with
        | none => rw [qx.none]; exact W.kia_one W.kitx_none nil trivial hb (fun e => by cases e) fin
        | bool i => rw [qx.bool]; exact W.kia_one W.kitx_bool nil trivial hb (fun e => by cases e) fin
        | int i => obtain ⟨_, rfl⟩ := qx.int; exact W.kia_one W.kitx_int nil trivial hb (fun e => by cases e) fin
        | str i => obtain ⟨_, rfl⟩ := qx.str; exact W.kia_one W.kitx_str nil trivial hb (fun e => by cases e) fin
        | tup ds => obtain ⟨a, o, vs, n, rfl, h1, h2, _⟩ := qx.tup; exact W.kia_one W.kitx_tuple nil ⟨o, h1, h2⟩ hb (fun e => by cases e) fin
        | list ds => obtain ⟨a, o, vs, n, rfl, h1, h2, _⟩ := qx.list; exact W.kia_one W.kitx_list nil ⟨o, h1, h2⟩ hb (fun e => by cases e) fin
        | exc C =>
          simp only [isInstD] at hb
          split at hb
          · rename_i ha
            have := qx.rv fun _ e => by cases e
            cases this with
            | exc h1 h2 h3 h4 h5 =>
              exact W.kia_one (kitx_of_ask ha) (hG.K.keeps rel.base) ⟨_, h1, h2, by unfold W.notCls; rw [h4], h3⟩ hb (fun e => by cases e) fin
          · cases hb
        | range _ _ _ => cases hb
        | glob _ => cases hb
  · cases e
end Mine
end

section
set_option Elab.async false
set_option maxRecDepth 100000
namespace Mine
open PySem
noncomputable def sRaise (C : Addr) (fa : AEnv → Res (List D)) : AEnv → Res Fl := fun ρ => (fa ρ).bind fun ds ρ₁ => if ds.length ≤ 1000 then .exc C ρ₁ else .stuck
section
variable {G : Gd} {k : Nat} {sc : Scope}
theorem simS_Raise {x : Str} {C : Addr} {bm : List Value} {newId Bn initId : String} {np cpos pos : Pos} {args : List Expr} {fa : AEnv → Res (List D)} (hG : G.Ok) (hq : G.quiet = true) (O : PyProof.Rows.OwnCls x C bm newId G.mg G.B) (FB : ExcBaseFacts Bn newId initId bm)
    (hx : sc.names.lookup x = some .globalImplicit) (hd : (x == ("__debug__" : Str)) = false) (ha : SimVs G k sc args fa) (hu : args.all unstarred = true) : SimS G k sc (.Raise (some (.Call (.Name x np) args [] cpos)) none pos) (sRaise C fa) := by
  intro cx ok fn ρ S s r Q E out
  obtain ⟨tl, N, nm, q, bs, hdct, sn, sub, ab, col, dd, k0, k1, k2, k3, k5, mN, hC, hN, hni, T⟩ := O.obj
  refine wpAny_Raise_call_subT (C := C) (nm := nm) (q := q) (N := N) (bs := bs) (bm := tl) (hdct := hdct) (sn := sn) (sub := sub) (ab := ab) (col := col) (dd := dd) (k0 := k0) (k1 := k1) (k2 := k2) (k3 := k3) (k5 := k5)
    FB (mN := mN) (T.hasType FB.hasBase) (ok.hd hq) (star_plain args hu) hni ?_
  have hn := sim_global (k := k) (sc := sc) (pos := np) hG hx O.bound (fun a e => by cases e; exact ⟨_, hC⟩) hd
  refine hn cx ok ρ S s r _ _ ?_
  intro v h₁ t₁ S₁ r₁ j₁ x₁ v₁
  refine ⟨by cases j₁; rfl, evalArgs_any hu ?_⟩
  refine ha cpos cx ok ρ S₁ { s with heap := h₁, toks := t₁ } r₁ _ _ ?_
  unfold sRaise at out
  cases hfa : fa ρ with
  | stuck => rw [hfa] at out; exact out.elim
  | exc C ρ' => rw [hfa] at out; intro e h₂ t₂ S₂ r₂ f₂ x₂; exact out e h₂ t₂ S₂ r₂ (f₂.back x₁) (x₁.trans x₂)
  | ok ds ρ' =>
    rw [hfa] at out
    simp only [Res.bind] at out
    intro vs h₂ t₂ S₂ r₂ j₂ x₂ v₂
    split at out
    · rename_i hl
      refine ⟨rfl, by show vs.length ≤ sizeLine; rw [j₂.length, sizeLine_eq]; omega, r₂.base _ _ hC, hN.keeps r₂.base, T.keeps r₂.base, fun h₃ e m => ?_⟩
      obtain ⟨t, m1, m2, m3⟩ := m.there
      refine out e h₃ t₂ S₂ (r₂.keeps m.keeps) ⟨(x₁.trans x₂).none m.new, _, _, m1, rfl, rfl, rfl, rfl, .inl rfl⟩ ((x₁.trans x₂).trans (Ext.of_keeps m.keeps))
    · exact out.elim
end
noncomputable def sTry (K : W.Frag) (C' : Addr) (i : Nat) (f g : AEnv → Res Fl) : AEnv → Res Fl := fun ρ => match f ρ with
  | .ok fl ρ₁ => .ok fl ρ₁
  | .exc C ρ₁ => if W.mroIn K C (.ref C') == some true then (match g (ρ₁.set i (some (.sh (.exc C)))) with
      | .ok fl ρ₂ => .ok fl (ρ₂.set i none)
      | _ => .stuck) else .stuck
  | .stuck => .stuck
noncomputable def Gd.loud (G : Gd) : Gd := { G with quiet := false }
theorem Rel.loud {G : Gd} {cx : Cx} {sc : Scope} {ρ : AEnv} {S : Addr → Prop} {h : Heap} {A' : Around} (r : Rel G cx sc ρ S h) (hok : ∀ v, A'.handled = some v → ∃ C, RV S h v (.exc C)) : Rel G.loud { cx with A := A' } sc ρ S h :=
  ⟨r.base, r.keep, r.ff, r.ns, r.cells, r.sdom, r.sok, r.sloc, r.scell, r.live, r.clean, hok, r.vars, r.inj⟩
theorem Rel.unloud {G : Gd} {cx : Cx} {sc : Scope} {ρ : AEnv} {S : Addr → Prop} {h : Heap} {A' : Around} (hok : ∀ v, cx.A.handled = some v → ∃ C, RV S h v (.exc C)) (r : Rel G.loud { cx with A := A' } sc ρ S h) : Rel G cx sc ρ S h :=
  ⟨r.base, r.keep, r.ff, r.ns, r.cells, r.sdom, r.sok, r.sloc, r.scell, r.live, r.clean, hok, r.vars, r.inj⟩
theorem wp_nameGoes {G : Gd} {cx : Cx} {sc : Scope} {ρ : AEnv} {S : Addr → Prop} {s : Shared} {i : Nat} {n : Str} {pos : Pos} {M : Model} {A : Around} {E : Value → Shared → Prop} {Q : Unit → Shared → Prop} (ok : CxOk G cx sc 0) (fn : FnOk G cx) (r : Rel G cx sc ρ S s.heap) (hx : (varNames sc)[i]? = some n) (hk : sc.names.lookup n = some .local) (hdn : isDirty n = true)
    (hQ : ∀ h' tk, Rel G cx sc (ρ.set i none) S h' → Ext S s.heap S h' → (∀ v t, RTmp cx S s.heap v t → RTmp cx S h' v t) → Q () { s with heap := h', toks := tk }) : wpAny M A (do bindName cx.env n .none; unbindBehindTheSuite cx.env n pos) Q E s := by
  have hkf : cx.env.scope.kind = .function := by rw [ok.hsc]; exact ok.hk
  have kd : ∀ y, cx.env.kindOf y = sc.names.lookup y := fun y => by unfold Env.kindOf; rw [ok.hsc]
  obtain ⟨m, hm⟩ := r.ns
  have hm0 := hm
  obtain ⟨oL, es, ep, eL, dL, _⟩ := hm0
  refine wpAny_nameGoes_keeps ((kd n).trans hk) hm (by rw [hkf]; rfl) fun h' v n' k => ?_
  have n'' := n'
  obtain ⟨oL', es', ep', eL', dL', _⟩ := n''
  have x' : Ext S s.heap S h' := ext_but eL (by rintro (⟨_, vs, n, q⟩ | ⟨vs, q⟩) <;> (rw [dL] at q; cases q)) r.sloc k ⟨_, eL'⟩
  have ow' : ∀ {a d}, OwnAt S s.heap a d → OwnAt S h' a d := fun {a d} q => q.ext x' fun o eo => (k.2 a (by
    rintro rfl
    obtain ⟨o', ho', _, vs, n, hd⟩ := q.cls
    rw [eL] at ho'; cases ho'; rw [dL] at hd; cases hd)).trans eo
  have cellsame : ∀ y c, cx.env.cells.lookup y = some c → ∀ w, s.heap.IsCell c w → h'.IsCell c w := fun y c q w n => n.sameBut k (fn.loc y c q)
  have hb : ∀ y w, y ≠ n → Var cx.env s.heap y w → Var cx.env h' y w := fun y w hy q => by
    rcases q with ⟨a, m₁, b, c⟩ | ⟨a, c, b, d⟩
    · refine .inl ⟨a, _, n', ?_⟩
      rw [if_neg hy, ← b.agree hm y]; exact c
    · exact .inr ⟨a, c, b, cellsame y c b _ d⟩
  have hf : ∀ y w, y ≠ n → Var cx.env h' y w → Var cx.env s.heap y w := fun y w hy q => by
    rcases q with ⟨a, m₁, b, c⟩ | ⟨a, c, b, d⟩
    · refine .inl ⟨a, m, hm, ?_⟩
      have := b.agree n' y
      rw [if_neg hy] at this
      rw [← this]; exact c
    · obtain ⟨w₀, n₀⟩ := r.cells y c b
      exact .inr ⟨a, c, b, by rw [IsCell.inj d (cellsame y c b _ n₀)]; exact n₀⟩
  have neName : ∀ (j : Nat) (y : Str), (varNames sc)[j]? = some y → j ≠ i → y ≠ n := fun j y hy hj q => by
    subst q
    obtain ⟨h1, e1⟩ := List.getElem?_eq_some_iff.mp hx
    obtain ⟨h2, e2⟩ := List.getElem?_eq_some_iff.mp hy
    exact hj ((List.getElem_inj ok.nodup).mp (e2.trans e1.symm))
  have ne : ∀ (j : Nat) u, (ρ.set i none)[j]? = some (some u) → j ≠ i ∧ ρ[j]? = some (some u) := fun j u q => by
    by_cases hj : j = i
    · exfalso
      subst hj
      by_cases hl : j < ρ.length
      · rw [List.getElem?_set_self hl] at q; cases q
      · rw [List.getElem?_eq_none (by rw [List.length_set]; omega)] at q; cases q
    · rw [List.getElem?_set_ne (Ne.symm hj)] at q; exact ⟨hj, q⟩
  refine hQ h' _ ⟨fun b o q => (k.2 b (by rintro rfl; have := fn.bh _ _ q; rw [fn.lnew] at this; cases this)).trans (r.base b o q), fun b o q => ?_, fun env he => ?_, ⟨_, n'⟩, fun y c q => let ⟨w, n⟩ := r.cells y c q; ⟨w, cellsame y c q w n⟩, fun b q => let ⟨o, eo⟩ := r.sdom b q; x'.dom b o eo, r.sok, r.sloc, r.scell,
    fun y a hdy q => ?_, fun j y mm d hy hj => r.clean j y mm d hy (ne j _ hj).2, fun v q => let ⟨C, e⟩ := r.hok v q; ⟨C, e.ext x'⟩, fun j y u hy hu => ?_, fun j l y z mm m' d d' u hy hz hj hl a b => ?_⟩ x' fun v t q => ?_
  · obtain ⟨sl, q₁, k₁⟩ := r.keep b o q
    exact ⟨sl, (k.2 b (by rintro rfl; rw [fn.lnew] at q; cases q)).trans q₁, k₁⟩
  · obtain ⟨a, L, o, b, c, d, es, n, q⟩ := r.ff env he
    by_cases hL : L = cx.env.locals
    · subst hL; exact ⟨a, _, _, b, c, eL', es', ep', dL'⟩
    · exact ⟨a, L, o, b, c, (k.2 L hL).trans d, es, n, q⟩
  · have hy : y ≠ n := by rintro rfl; rw [hdn] at hdy; cases hdy
    obtain ⟨o, eo⟩ := r.live y a hdy (hf y _ hy q)
    exact x'.dom a o eo
  · obtain ⟨hj, hu⟩ := ne j u hu
    obtain ⟨w, hw, tw⟩ := r.vars j y u hy hu
    refine ⟨w, hb y w (neName j y hy hj) hw, ?_⟩
    cases u with
    | sh d => exact RV.ext x' tw
    | ow m d => obtain ⟨a, rfl, n1, ow, n2⟩ := tw; exact ⟨a, rfl, n1, ow' ow, n2⟩
  · obtain ⟨hji, hj⟩ := ne j _ hj
    obtain ⟨hli, hl⟩ := ne l _ hl
    exact r.inj j l y z mm m' d d' u hy hz hj hl (hf y _ (neName j y hy hji) a) (hf z _ (neName l z hz hli) b)
  · cases t with
    | sh d => exact RV.ext x' q
    | ow m d => obtain ⟨a, rfl, n1, ow, n2⟩ := q; exact ⟨a, rfl, n1, ow' ow, n2⟩
section
variable {G : Gd} {k : Nat} {sc : Scope}
theorem simS_Try {body suite : List Stmt} {b₀ : Stmt} {x n : Str} {np hp pos : Pos} {C' : Addr} {i : Nat} {f g : AEnv → Res Fl} (hG : G.Ok) (hq : G.quiet = true) (hb : SimSs G k sc body f) (hs : SimSs G.loud k sc (b₀ :: suite) g)
    (hn : Sim G.loud k sc (.Name x np) (eConst (.glob (.ref C')))) (hx : (varNames sc)[i]? = some n) (hk : sc.names.lookup n = some .local) (hdn : isDirty n = true)
    (hty : W.typeIn G.K (.ref C') = some (.type "type")) (hcl : (W.clsIn G.K C').isSome = true) (hbe : W.mroIn G.K C' (.type "BaseException") = some true) :
    SimS G k sc (.Try body [.ExceptHandler (some (.Name x np)) (some n) (b₀ :: suite) hp] [] [] pos) (sTry G.K C' i f g) := by
  intro cx ok fn ρ S s r Q E out
  refine wpAny_Try_except ?_
  refine hb cx ok fn ρ S s r _ _ ?_
  unfold sTry at out
  cases hf : f ρ with
  | stuck => rw [hf] at out; exact out.elim
  | ok fl ρ₁ =>
    rw [hf] at out
    intro a h₁ t₁ S₁ r₁ j₁ x₁ v₁
    have := out a h₁ t₁ S₁ r₁ j₁ x₁ v₁
    cases a <;> first | exact this | exact wpAny_execs_nil this
  | exc C ρ₁ =>
    rw [hf] at out
    simp only at out
    split at out
    rotate_left
    · exact out.elim
    rename_i hmro
    have hmro : W.mroIn G.K C (.ref C') = some true := beq_iff_eq.mp hmro
    intro e h₁ t₁ S₁ r₁ f₁ x₁
    refine wp_noteFrame (B := G.B) (h := s.heap) (s := { s with heap := h₁, toks := t₁ }) ok.fr r₁.ff ok.top f₁ x₁.dom fun h₂ k₂ f₂ => ?_
    have r₂ := r.kpE r₁ k₂ f₁ f₂
    have x₂ := Ext.kpE (G := G) x₁ k₂ f₁
    refine wp_setFlight (B := G.B) (s := { s with heap := h₂, toks := t₁ }) f₂ fun h₃ k₃ f₃ => ?_
    have r₃ := r.kpE r₂ k₃ f₂.fly f₃
    have x₃ := Ext.kpE (G := G) x₂ k₃ f₂.fly
    -- the clause is asked
    refine wpAny_handleBy_cons (codeAny_handlers_test ?_) (by intro q; cases q)
    let A' := cx.A.mark (some (.ref e))
    let cx' : Cx := { cx with A := A' }
    have hA' : A'.handled = some (.ref e) := rfl
    have ok' : CxOk G.loud cx' sc k := { hsc := ok.hsc, hk := ok.hk, hg := ok.hg, hb := ok.hb, fr := ok.fr, top := ok.top, hd := (fun q => by cases q), room := ok.room, nodup := ok.nodup }
    have fn' : FnOk G.loud cx' := ⟨⟨fn.bh, fn.lnew, fn.cap, fn.loc⟩, fn.has⟩
    have exc₃ : ∀ S', RV S' h₃ (.ref e) (.exc C) := fun S' => by
      obtain ⟨_, oe, vs, T, oT, ts, a1, a2, a0, a3, a4, _⟩ := f₃
      exact .exc a1 a2 a0 a3 a4
    have hok₃ : ∀ v, A'.handled = some v → ∃ C, RV S₁ h₃ v (.exc C) := fun v q => by rw [hA'] at q; cases q; exact ⟨C, exc₃ _⟩
    have rl₃ : Rel G.loud cx' sc ρ₁ S₁ h₃ := Rel.loud r₃ hok₃
    refine hn cx' ok' ρ₁ S₁ { s with heap := h₃, toks := t₁ } rl₃ _ _ ?_
    intro v h₄ t₄ S₄ r₄ j₄ x₄ v₄
    have hv : v = .ref C' := by cases j₄; rfl
    subst hv
    have exc₄ : RV S₄ h₄ (.ref e) (.exc C) := (exc₃ S₁).ext x₄
    have X₄ : G.K.In h₄ := hG.K.keeps r₄.base
    cases exc₄ with
    | exc e1 e2 e3 e4 e5 =>
    refine wp_excMatches (s := { s with heap := h₄, toks := t₄ }) X₄ e1 e2 hty hcl hbe hmro ?_
    simp only [if_true]
    refine codeAny_handlers_suite_as ?_
    have f₄ : FlyT s.heap h₄ e C := by
      obtain ⟨hne, oe, vs, T, oT, ts, a1, a2, a0, a3, a4, a5, a6, a7, a8, a9, a10, a11⟩ := f₃
      exact ⟨hne, oe, vs, T, oT, ts, x₄.exact a1 (.inr (.inr ⟨_, a3⟩)) (.fields a3), a2, a0, a3, a4, a5, a6, a7, x₄.exact a8 (.inr (.inr ⟨_, a10⟩)) (.fields a10), a9, a10, a11⟩
    have x₄' := x₃.trans x₄
    refine wp_setFlight (B := G.B) (h := s.heap) (s := { s with heap := h₄, toks := t₄ }) f₄ fun h₅ k₅ f₅ => ?_
    have r4' : Rel G cx sc ρ₁ S₄ h₄ := Rel.unloud (fun v q => by rw [ok.hd hq] at q; cases q) r₄
    have r₅ : Rel G cx sc ρ₁ S₄ h₅ := r.kpE r4' k₅ f₄.fly f₅
    have x₅ := Ext.kpE (G := G) x₄' k₅ f₄.fly
    have exc₅ : ∀ S', RV S' h₅ (.ref e) (.exc C) := fun S' => by
      obtain ⟨_, oe, vs, T, oT, ts, a1, a2, a0, a3, a4, _⟩ := f₅
      exact .exc a1 a2 a0 a3 a4
    have rl₅ : Rel G.loud cx' sc ρ₁ S₄ h₅ := Rel.loud r₅ (fun v q => by rw [hA'] at q; cases q; exact ⟨C, exc₅ _⟩)
    -- the name is bound
    refine does_store (s := { s with heap := h₅, toks := t₄ }) (ok'.mono (Nat.zero_le _)) fn'.toFnCx rl₅ hx (.inl hk) (t := .sh (.exc C)) (.inr ⟨_, rfl⟩) (exc₅ S₄) _ _ ?_
    intro _ h₆ t₆ S₆ r₆ _ x₆ _
    refine hs cx' ok' fn' _ S₆ { s with heap := h₆, toks := t₆ } r₆ _ _ ?_
    cases hg : g (ρ₁.set i (some (.sh (.exc C)))) with
    | stuck => rw [hg] at out; exact out.elim
    | exc C₂ ρ₂ => rw [hg] at out; exact out.elim
    | ok fl ρ₂ =>
      rw [hg] at out
      intro a h₇ t₇ S₇ r₇ j₇ x₇ _
      have r7' : Rel G cx sc ρ₂ S₇ h₇ := Rel.unloud (fun v q => by rw [ok.hd hq] at q; cases q) r₇
      refine wp_nameGoes (s := { s with heap := h₇, toks := t₇ }) (ok.mono (Nat.zero_le _)) fn r7' hx hk hdn fun h₈ t₈ r₈ x₈ rt => ?_
      refine out a h₈ t₈ S₇ r₈ ?_ (((x₅.trans x₆).trans x₇).trans x₈) fun q => by cases q
      cases a <;> cases fl <;> first | exact j₇ | exact rt _ _ j₇
end
end Mine
end

section
set_option Elab.async false
set_option maxRecDepth 100000
namespace Mine
open PySem PyProof.Rows
noncomputable def SimBo (G : Gd) (k : Nat) (sc : Scope) (op : BoolOp) (es : List Expr) (f : AEnv → Res T) : Prop :=
  ∀ pos cx, CxOk G cx sc k → ∀ ρ S s, Rel G cx sc ρ S s.heap → Does G cx sc true (boolOp pos op (evalEach es cx.env)) S s (fun S' h' v t => TTmp cx S' h' v t) (f ρ)
noncomputable def isAnd : BoolOp → Bool
  | .And => true
  | .Or => false
noncomputable def eBo (op : BoolOp) (f : AEnv → Res Bv) (g : AEnv → Res T) : AEnv → Res T := fun ρ => (f ρ).bind fun a ρ₁ => match a.get ρ₁ with
  | some x => (match asB x with | some b => if b == isAnd op then g ρ₁ else .ok (.sh (.bool b)) ρ₁ | none => .stuck)
  | none => .stuck
section
variable {G : Gd} {k : Nat} {sc : Scope} {op : BoolOp}
theorem simBo_one {x : Expr} {f : AEnv → Res T} (h : Sim G k sc x f) : SimBo G k sc op [x] f := fun _ cx ok ρ S s r => h cx ok ρ S s r
theorem simBo_cons {x y : Expr} {rest : List Expr} {f : AEnv → Res Bv} {g : AEnv → Res T} (hx : SimB G k sc x f) (hr : SimBo G k sc op (y :: rest) g) : SimBo G k sc op (x :: y :: rest) (eBo op f g) := by
  intro pos cx ok ρ S s r
  show Does G cx sc true (do
    let v ← eval x cx.env
    standAt pos
    let t ← holding [v] (truthy v)
    match op, t with
    | .And, false | .Or, true => pure v
    | _, _ => boolOp pos op (evalEach (y :: rest) cx.env)) S s _ _
  refine Does.bind (hx cx ok ρ S s r) fun a ρ₁ va h₁ t₁ S₁ _ r₁ ja x₁ v₁ => ?_
  refine Does.standAt ?_
  split
  · rename_i d hd
    split
    · rename_i b hb
      have rb := BVal.rb ja r₁ hd
      unfold asB at hb
      split at hb
      · cases hb
        rw [rb.bool]
        intro Q E out
        refine wpAny_bind (wpAny_holding (wpAny_truthy_bool ?_))
        cases op <;> cases b
        · exact wpAny_pure (out _ h₁ t₁ S₁ r₁ (.bool _) (Ext.refl ..) fun _ => VarSame.refl _ _)
        · exact hr pos cx ok ρ₁ S₁ _ r₁ Q E out
        · exact hr pos cx ok ρ₁ S₁ _ r₁ Q E out
        · exact wpAny_pure (out _ h₁ t₁ S₁ r₁ (.bool _) (Ext.refl ..) fun _ => VarSame.refl _ _)
      · cases hb
    · exact Does.stuck
  · exact Does.stuck
theorem sim_BoolOp {es : List Expr} {pos : Pos} {f : AEnv → Res T} (h : SimBo G k sc op es f) : Sim G k sc (.BoolOp op es pos) f := fun cx ok ρ S s r => h pos cx ok ρ S s r
end
noncomputable def notI : D → Option T
  | .bool b => some (.sh (.bool !b))
  | _ => none
theorem op_not {G : Gd} : Op1 G (unaryOp .Not) notI := by
  intro cx sc ok ρ S s v x t rel rx e Q E out
  unfold notI at e; split at e
  · cases e; rw [rx.bool]
    exact not_value (wpAny_truthy_bool (out_sh out rel (tk := s.toks) (.bool _)))
  · cases e
noncomputable def eIfE (t : AEnv → Res Bool) (a b : AEnv → Res T) : AEnv → Res T := fun ρ => (t ρ).bind fun c ρ₁ => if c then a ρ₁ else b ρ₁
theorem sim_globalInt {G : Gd} {k : Nat} {sc : Scope} {pos : Pos} {x : Str} {i : Int} {t : Tok} (hG : G.Ok) (hx : sc.names.lookup x = some .globalImplicit) (hv : G.mg x = some (.int i t)) (hd : (x == ("__debug__" : Str)) = false) : Sim G k sc (.Name x pos) (eConst (.int i)) := by
  intro cx ok ρ S s r Q E out
  refine Calls.Name_function_global (by rw [ok.hsc]; exact ok.hk) (by unfold Env.kindOf; rw [ok.hsc]; exact hx) (Calls.loadGlobal_global (mg := G.mg) (by rw [ok.hg]; exact hG.g.keeps r.base) hv ?_) hd
  exact out _ s.heap s.toks _ r (.int i t) (Ext.refl ..) fun _ => VarSame.refl _ _
noncomputable def idxD (ds : List D) (i : Int) : Option D := if 0 ≤ i then (if i < 2 ^ 63 then ds[i.toNat]? else none) else if -(2 ^ 63) ≤ i ∧ -(ds.length : Int) ≤ i then ds[(i + ds.length).toNat]? else none
noncomputable def idxI : D → D → Option T
  | .tup ds, .int i => (idxD ds i).map .sh
  | .list ds, .int i => (idxD ds i).map .sh
  | _, _ => none
theorem seqIndex_pos {i : Int} {n : Nat} (h0 : 0 ≤ i) (h1 : i < n) : seqIndex? i n = some i.toNat := by
  unfold seqIndex?
  have h2 : ¬ (i < 0) := by omega
  simp only [h2, if_false]
  rw [if_pos (by simp only [Bool.and_eq_true, decide_eq_true_eq]; omega)]
theorem idxD_get {S : Addr → Prop} {h : Heap} {vs : Array Value} {ds : List D} {i : Int} {d : D} (q : RVs S h vs.toList ds) (e : idxD ds i = some d) :
    ∃ v, RV S h v d ∧ -(2 ^ 63) ≤ i ∧ i < 2 ^ 63 ∧ ((0 ≤ i ∧ vs[i.toNat]? = some v ∧ seqIndex? i vs.size = some i.toNat) ∨ (i < 0 ∧ -(vs.size : Int) ≤ i ∧ vs[(i + vs.size).toNat]? = some v ∧ seqIndex? i vs.size = some (i + vs.size).toNat)) := by
  have hl : vs.size = ds.length := by rw [← q.length]; simp
  unfold idxD at e
  split at e
  · split at e
    · obtain ⟨v, hv, rv⟩ := q.get e
      have hv' : vs[i.toNat]? = some v := by simpa using hv
      have := (Array.getElem?_eq_some_iff.mp hv').1
      refine ⟨v, rv, by omega, by omega, .inl ⟨by omega, hv', seqIndex_pos (by omega) (by omega)⟩⟩
    · cases e
  · split at e
    · rename_i hn hb
      obtain ⟨v, hv, rv⟩ := q.get e
      refine ⟨v, rv, hb.1, by omega, .inr ⟨by omega, by omega, by rw [hl]; simpa using hv, seqIndex_neg (by omega) (by omega)⟩⟩
    · cases e
theorem sim_Subscript {G : Gd} {k : Nat} {sc : Scope} {value slice : Expr} {pos : Pos} {f g : AEnv → Res Bv} (hl : SimB G k sc value f) (hr : SimB G k sc slice g) (hs : ∀ o i, subscripted slice false o i = operate [o, i] (getItem o i)) :
    Sim G k sc (.Subscript value slice pos) (eOp2 idxI f g) := by
  intro cx ok ρ S s rel
  show Does G cx sc true (do let a ← eval value cx.env; let b ← holding [a] (eval slice cx.env); standAt pos; subscriptTail value slice a b) S s _ _
  refine does_two (K := fun x y ρ₂ => match idxI x y with | some t => .ok t ρ₂ | none => .stuck) hl hr ok rel fun ρ' S' h' tk v w x y rel' rx ry => ?_
  refine Does.standAt ?_
  split
  · rename_i t ht
    unfold idxI at ht
    intro Q E out
    split at ht
    · rename_i ds i
      obtain ⟨d, hd, rfl⟩ := Option.map_eq_some_iff.mp ht
      obtain ⟨a, o, vs, n, rfl, h1, h2, h3, q⟩ := rx.tup
      obtain ⟨u, rfl⟩ := ry.int
      obtain ⟨y, rv, b1, b2, hy⟩ := idxD_get q hd
      have it : IsTup h' a vs := ⟨o, h1, h2, n, h3⟩
      have fin := out y h' tk S' rel' rv (Ext.refl ..) fun _ => VarSame.refl _ _
      refine tail_any (s := { s with heap := h', toks := tk }) it.typeIs slot_tuple_getitem.lookup ?_ (hs _ _)
      rcases hy with ⟨_, e1, e2⟩ | ⟨_, _, e1, e2⟩
      · exact getItem_tuple it b1 b2 e2 e1 fin
      · exact getItem_tuple it b1 b2 e2 e1 fin
    · rename_i ds i
      obtain ⟨d, hd, rfl⟩ := Option.map_eq_some_iff.mp ht
      obtain ⟨a, o, vs, n, rfl, h1, h2, h3, q⟩ := rx.list
      obtain ⟨u, rfl⟩ := ry.int
      obtain ⟨y, rv, b1, b2, hy⟩ := idxD_get q hd
      have it : h'.IsList a vs := ⟨o, h1, h2, n, h3⟩
      have fin := out y h' tk S' rel' rv (Ext.refl ..) fun _ => VarSame.refl _ _
      refine tail_any (s := { s with heap := h', toks := tk }) it.typeIs slot_list_getitem.lookup ?_ (hs _ _)
      rcases hy with ⟨e0, e1, _⟩ | ⟨e0, e0', e1, _⟩
      · exact wpAny_getItem_list it e0 b2 e1 fin
      · exact wpAny_getItem_list_neg it e0 e0' b1 e1 fin
    · cases ht
  · exact Does.stuck
noncomputable def cutD (ds : List D) (lo hi : Option Int) : List D := (ds.drop (lo.elim 0 (clipAt ds.length))).take (hi.elim ds.length (clipAt ds.length) - lo.elim 0 (clipAt ds.length))
noncomputable def sliceI (x : D) (lo hi : Option Int) : Option T := match x with
  | .tup ds => if ds.length ≤ 1000000 then some (.sh (.tup (cutD ds lo hi))) else none
  | .list ds => if ds.length ≤ 1000000 then some (.ow true (.list (cutD ds lo hi))) else none
  | _ => none
noncomputable def SimP (G : Gd) (k : Nat) (sc : Scope) (e : Option Expr) (f : AEnv → Res (Option Int)) : Prop :=
  ∀ cx, CxOk G cx sc k → ∀ ρ S s, Rel G cx sc ρ S s.heap → Does G cx sc true (evalPart e cx.env) S s (fun _ _ v b => IsPart v b) (f ρ)
noncomputable def eNoPart : AEnv → Res (Option Int) := fun ρ => .ok none ρ
noncomputable def ePart (f : AEnv → Res Bv) : AEnv → Res (Option Int) := fun ρ => (f ρ).bind fun a ρ₁ => match a.get ρ₁ with
  | some (.int i) => .ok (some i) ρ₁
  | _ => .stuck
theorem simP_none {G : Gd} {k : Nat} {sc : Scope} : SimP G k sc none eNoPart := fun _ _ _ _ _ r => Does.pure r .none
theorem simP_some {G : Gd} {k : Nat} {sc : Scope} {e : Expr} {f : AEnv → Res Bv} (h : SimB G k sc e f) : SimP G k sc (some e) (ePart f) := by
  intro cx ok ρ S s r Q E out
  refine h cx ok ρ S s r Q E ?_
  unfold ePart at out
  cases hf : f ρ with
  | stuck => rw [hf] at out; exact out
  | exc C ρ' => rw [hf] at out; exact out
  | ok a ρ' =>
    rw [hf] at out
    simp only [Res.bind] at out
    intro v h' tk S' rel j x vs
    split at out
    · rename_i i hi
      obtain ⟨t, rfl⟩ := (BVal.rb j rel hi).int
      exact out _ h' tk S' rel (.int i t) x vs
    · exact out.elim
theorem adjust_plain (lo hi : Option Int) (n : Nat) : Builtin.Slice.sliceAdjust lo hi 1 (n : Int) = (((lo.elim 0 (clipAt n) : Nat) : Int), ((hi.elim n (clipAt n) : Nat) : Int)) := by
  have h1 : ¬ ((1 : Int) < 0) := by omega
  unfold Builtin.Slice.sliceAdjust
  have clip : ∀ v : Int, (if v < 0 then max (v + (n : Int)) 0 else min v (n : Int)) = ((clipAt n v : Nat) : Int) := fun v => by
    rw [clipAt_cast]; split <;> omega
  simp only [h1, if_false, clip]
  cases lo <;> cases hi <;> simp
theorem places_plain (a b : Nat) : Builtin.Slice.slicePlaces (a : Int) (b : Int) 1 = b - a := by
  unfold Builtin.Slice.slicePlaces
  have h1 : (1 : Int) > 0 := by omega
  simp only [h1, if_true, Int.ediv_one]
  split <;> omega
section
variable {prog : Program} {w : World} {A : Around} {E : Value → Shared → Prop} {s : Shared}
theorem slicePart_any {v : Value} {p : Option Int} {Q : Option Int → Shared → Prop} (hv : IsPart v p) (h : Q p s) : wpAny (model prog w) A (Builtin.Slice.slicePartIndex v) Q E s := by
  cases hv with
  | none => exact slicePart_none h
  | int i t => exact slicePart_int h
theorem sliceApplied_plain {sl : Addr} {vl vu : Value} {lo hi : Option Int} {n : Nat} {Q : Int × Int × Nat → Shared → Prop} (hs : s.heap.IsSliceOf sl vl vu .none) (pl : IsPart vl lo) (pu : IsPart vu hi)
    (h : Q (((lo.elim 0 (clipAt n) : Nat) : Int), 1, hi.elim n (clipAt n) - lo.elim 0 (clipAt n)) s) :
    wpAny (model prog w) A (Builtin.Slice.sliceApplied (.ref sl) (pure (n : Int))) Q E s := by
  obtain ⟨os, hos, hcs, hds⟩ := id hs
  unfold Builtin.Slice.sliceApplied Builtin.Slice.sliceFields
  refine wpAny_bind (wpAny_bind (wpAny_field hos hds (x := vl) rfl (wpAny_bind (wpAny_field hos hds (x := vu) rfl (wpAny_bind (wpAny_field hos hds (x := .none) rfl (wpAny_pure ?_)))))))
  refine wpAny_bind (slicePart_none ?_)
  show wpAny _ _ (if ((1 : Int) == 0) = true then _ else _) _ _ s
  rw [if_neg (by decide)]
  refine wpAny_bind (slicePart_any pl (wpAny_bind (slicePart_any pu (wpAny_bind (wpAny_pure ?_)))))
  show wpAny _ _ (match Builtin.Slice.sliceAdjust lo hi 1 (n : Int) with | (lo, hi) => pure (lo, (1 : Int), Builtin.Slice.slicePlaces lo hi 1)) _ _ s
  rw [adjust_plain]
  show wpAny _ _ (pure (_, (1 : Int), Builtin.Slice.slicePlaces _ _ 1)) _ _ s
  rw [places_plain]
  exact wpAny_pure h
theorem pick_plain (xs : Array Value) (a k : Nat) : ((List.range k).filterMap fun (j : Nat) => xs[((a : Int) + (j : Int) * 1).toNat]?).toArray = ((xs.toList.drop a).take k).toArray := by
  have e : (fun (k : Nat) => xs[((a : Int) + (k : Int) * 1).toNat]?) = fun k => xs[a + k]? := by
    funext k
    have : ((a : Int) + (k : Int) * 1).toNat = a + k := by omega
    rw [this]
  rw [e]
  have := pick_run xs a k
  rw [List.filterMap_map] at this
  have e2 : ((fun x => xs[x]?) ∘ fun x => a + x) = fun k => xs[a + k]? := rfl
  rw [e2] at this
  rw [this]
theorem getItem_tuple_slice {t sl : Addr} {items : Array Value} {vl vu : Value} {lo hi : Option Int} {Q : Value → Shared → Prop} (ht : IsTup s.heap t items) (hs : s.heap.IsSliceOf sl vl vu .none) (pl : IsPart vl lo) (pu : IsPart vu hi)
    (h0 : (items.toList.drop (lo.elim 0 (clipAt items.size))).take (hi.elim items.size (clipAt items.size) - lo.elim 0 (clipAt items.size)) = items.toList → Q (.ref t) s)
    (h : Q (.ref s.heap.objs.size) { s with heap := s.heap.push { cls := .type "tuple", data := .seq ((items.toList.drop (lo.elim 0 (clipAt items.size))).take (hi.elim items.size (clipAt items.size) - lo.elim 0 (clipAt items.size))).toArray } })
    (hsz : items.size ≤ sizeLine) : wpAny (model prog w) A (getItem (.ref t) (.ref sl)) Q E s := by
  have hdrop : sizeOk (.seq ((items.toList.drop (lo.elim 0 (clipAt items.size))).take (hi.elim items.size (clipAt items.size) - lo.elim 0 (clipAt items.size))).toArray) := by
    show _ ≤ sizeLine
    rw [List.size_toArray, List.length_take, List.length_drop, Array.length_toList]
    omega
  obtain ⟨os, hos, hcs, hds⟩ := id hs
  have hTs : s.TypeIs (.ref sl) "slice" := ⟨os, hos, hcs⟩
  unfold getItem
  try with_reducible refine wpAny_holding ?_
  first | refine wpAny_bind (wpAny_pure ?_) | skip
  refine wpAny_bind (wpAny_sequenceKey ht.typeIs (by decide) ?_)
  refine wpAny_bind (wpAny_callSpecial?_slot (name := Str.ofString "__getitem__") ht.typeIs slot_tuple_getitem
    (wpAny_call_entry slot_tuple_getitem ht.typeIs entry_tuple_getitem ?_ (args_tuple_getitem _ _)))
  show wpAny _ _ (Builtin.Tuple.tupleItemsOf (.ref t) >>= _) _ _ s
  refine wpAny_bind (tupleItemsOf_ ht ?_)
  refine wpAny_bind (wpAny_typeOf hTs ?_)
  rw [if_pos (by decide)]
  refine wpAny_bind (sliceApplied_plain hs pl pu ?_)
  generalize ha : (lo.elim 0 (clipAt items.size) : Nat) = a at *
  generalize hk : hi.elim items.size (clipAt items.size) - a = k at *
  show wpAny _ _ (if ((a : Int) == 0 && (1 : Int) == 1 && k == items.size) = true then _ else _) _ _ s
  by_cases hw : ((a : Int) == 0 && (1 : Int) == 1 && k == items.size) = true
  · rw [if_pos hw]
    simp only [Bool.and_eq_true, beq_iff_eq] at hw
    have ha0 : a = 0 := by omega
    have hq : Q (.ref t) s := h0 (by rw [ha0, hw.2, List.drop_zero]; exact List.take_of_length_le (by simp))
    obtain ⟨o, ho, hc, n, hd⟩ := id ht
    refine wpAny_bind (m := Builtin.Tuple.tupleIsExact _) ?_
    unfold Builtin.Tuple.tupleIsExact
    refine wpAny_bind (wpAny_typeOf ht.typeIs (wpAny_pure ?_))
    rw [if_pos (by decide)]
    refine wpAny_bind (wpAny_rule ?_)
    exact wpAny_pure ⟨_, rfl, wpAny_pure hq⟩
  · rw [if_neg hw, pick_plain items a k]
    first
      | exact wpAny_bind (m := Builtin.Tuple.tupleExact _) (wpAny_newObj_type (wpAny_pure ⟨_, rfl, wpAny_pure h⟩) hdrop)
      | exact wpAny_bind (m := Builtin.Tuple.tupleExact _) (wpAny_newObj_type (wpAny_bind (wpAny_pure (wpAny_pure ⟨_, rfl, wpAny_pure h⟩))) hdrop)
      | exact wpAny_bind (wpAny_bind (m := Builtin.Tuple.tupleExact _) (wpAny_newObj_type (wpAny_pure (wpAny_pure ⟨_, rfl, wpAny_pure h⟩)) hdrop))
      | exact wpAny_bind (wpAny_bind (m := Builtin.Tuple.tupleExact _) (wpAny_newObj_type (wpAny_pure ⟨_, rfl, wpAny_pure h⟩) hdrop))
end
noncomputable def eSlice (f : AEnv → Res Bv) (g h : AEnv → Res (Option Int)) : AEnv → Res T := fun ρ => (f ρ).bind fun a ρ₁ => (g ρ₁).bind fun lo ρ₂ => (h ρ₂).bind fun hi ρ₃ => match a.get ρ₃ with
  | some x => (match sliceI x lo hi with | some t => .ok t ρ₃ | none => .stuck)
  | none => .stuck
theorem RVs.cut {S : Addr → Prop} {h : Heap} {vs : Array Value} {ds : List D} (q : RVs S h vs.toList ds) (lo hi : Option Int) :
    RVs S h ((vs.toList.drop (lo.elim 0 (clipAt vs.size))).take (hi.elim vs.size (clipAt vs.size) - lo.elim 0 (clipAt vs.size))) (cutD ds lo hi) := by
  have hl : vs.size = ds.length := by rw [← q.length]; simp
  unfold cutD
  rw [hl]
  exact (q.drop _).take _
theorem sim_Slice {G : Gd} {k : Nat} {sc : Scope} {value : Expr} {lower upper : Option Expr} {p pos : Pos} {f : AEnv → Res Bv} {g h : AEnv → Res (Option Int)} (hv : SimB G k sc value f) (hl : SimP G k sc lower g) (hu : SimP G k sc upper h) :
    Sim G k sc (.Subscript value (.Slice lower upper none p) pos) (eSlice f g h) := by
  intro cx ok ρ S s rel
  show Does G cx sc true (do let a ← eval value cx.env; let b ← holding [a] (eval (.Slice lower upper none p) cx.env); standAt pos; subscriptTail value (.Slice lower upper none p) a b) S s _ _
  unfold eSlice
  refine Does.bind (hv cx ok ρ S s rel) fun a ρ₁ va h₁ t₁ S₁ _ r₁ ja x₁ v₁ => ?_
  intro Q E out
  refine wpAny_bind (wpAny_holding (wpAny_Slice ?_))
  refine hl cx ok ρ₁ S₁ { s with heap := h₁, toks := t₁ } r₁ _ _ ?_
  cases hg : g ρ₁ with
  | stuck => rw [hg] at out; exact out.elim
  | exc C ρ₂ => rw [hg] at out; exact out
  | ok lo ρ₂ =>
    rw [hg] at out
    simp only [Res.bind] at out ⊢
    intro vl h₀ t₀ S₀ r₀ pl x₀ v₀
    refine hu cx ok ρ₂ S₀ { s with heap := h₀, toks := t₀ } r₀ _ _ ?_
    cases hh : h ρ₂ with
    | stuck => rw [hh] at out; exact out.elim
    | exc C ρ₃ => rw [hh] at out; intro e h₂ t₂ S₂ r₂ f₂ x₂; exact out e h₂ t₂ S₂ r₂ (f₂.back x₀) (x₀.trans x₂)
    | ok hi ρ₃ =>
      rw [hh] at out
      simp only at out
      intro vu h₂ t₂ S₂ r₂ pu x₂' v₂'
      have x₂ := x₀.trans x₂'
      have v₂ : true = true → VarSame cx.env h₁ h₂ := fun q => (v₀ q).trans (v₂' q)
      rw [evalPart_none]
      refine wpAny_pure ?_
      refine wpAny_bind (wpAny_standAt ?_)
      have ja₂ : BVal cx sc S₂ h₂ va a := BVal.ext ja x₂ (v₂ rfl)
      split at out
      · rename_i x hx
        have rx := ja₂.rb r₂ hx
        split at out
        · rename_i t ht
          unfold sliceI at ht
          have hsl : subscripted (.Slice lower upper none p) false va (.ref h₂.objs.size) = operate [.ref h₂.objs.size, va] (getItem va (.ref h₂.objs.size)) := rfl
          split at ht
          · rename_i ds
            split at ht
            · rename_i hlen
              cases ht
              obtain ⟨a', o, vs, n, rfl, h1, h2, h3, q⟩ := rx.tup
              have hls : vs.size = ds.length := by rw [← q.length]; simp
              have it : IsTup (h₂.push { cls := .type "slice", data := .fields #[vl, vu, .none] }) a' vs := ⟨o, Heap.get?_push_of_some _ h1, h2, n, h3⟩
              refine tail_any (s := { s with heap := h₂.push { cls := .type "slice", data := .fields #[vl, vu, .none] }, toks := t₂ }) it.typeIs slot_tuple_getitem.lookup ?_ hsl
              have rp := Rel.push (s := { s with heap := h₂ }) r₂ { cls := .type "slice", data := .fields #[vl, vu, .none] }
              have xp : Ext S₂ h₂ S₂ _ := ext_push { cls := .type "slice", data := .fields #[vl, vu, .none] }
              refine getItem_tuple_slice it (Heap.IsSliceOf.new ..) pl pu (fun he => ?_) ?_ (by rw [hls, sizeLine_eq]; omega)
              · refine out _ _ t₂ S₂ rp ?_ (x₂.trans xp) fun q => (v₂ q).trans (r₂.same (kp_push _))
                have := q.cut lo hi
                rw [he] at this
                exact .tup (Heap.get?_push_of_some _ h1) h2 h3 (this.ext xp)
              · refine out _ _ t₂ S₂ (Rel.push (s := { s with heap := h₂.push _ }) rp _) ?_ ((x₂.trans xp).trans (ext_push _)) fun q => ((v₂ q).trans (r₂.same (kp_push _))).trans (rp.same (kp_push _))
                exact .tup (Heap.get?_push_size _ rfl) rfl rfl (by simpa using ((q.cut lo hi).ext xp).ext (ext_push _))
            · cases ht
          · rename_i ds
            split at ht
            · rename_i hlen
              cases ht
              obtain ⟨a', o, vs, n, rfl, h1, h2, h3, q⟩ := rx.list
              have hls : vs.size = ds.length := by rw [← q.length]; simp
              have it : (h₂.push { cls := .type "slice", data := .fields #[vl, vu, .none] }).IsList a' vs := ⟨o, Heap.get?_push_of_some _ h1, h2, n, h3⟩
              refine tail_any (s := { s with heap := h₂.push { cls := .type "slice", data := .fields #[vl, vu, .none] }, toks := t₂ }) it.typeIs slot_list_getitem.lookup ?_ hsl
              have rp := Rel.push (s := { s with heap := h₂ }) r₂ { cls := .type "slice", data := .fields #[vl, vu, .none] }
              have xp : Ext S₂ h₂ S₂ _ := ext_push { cls := .type "slice", data := .fields #[vl, vu, .none] }
              refine wpAny_getItem_list_slice it (Heap.IsSliceOf.new ..) pl pu .none (by simp) ?_ (by rw [hls, sizeLine_eq]; omega)
              refine out _ _ t₂ S₂ (Rel.push (s := { s with heap := h₂.push _ }) rp _) ?_ ((x₂.trans xp).trans (ext_push _)) fun q => ((v₂ q).trans (r₂.same (kp_push _))).trans (rp.same (kp_push _))
              refine fresh_list (s := { s with heap := h₂.push _ }) rp (kp_push _) (Heap.get?_none_of_le (Nat.le_refl _)) (Heap.get?_push_size _ rfl) ?_
              rw [slicePick_plain]
              simpa using ((q.cut lo hi).ext xp).ext (ext_push _)
            · cases ht
          · cases ht
        · exact out.elim
      · exact out.elim
noncomputable def addD : D → D → Option T
  | .int a, .int b => some (.sh (.int (a + b)))
  | .list xs, .list ys => if xs.length + ys.length ≤ 1000000 then some (.ow true (.list (xs ++ ys))) else none
  | .tup xs, .tup ys => if xs.length + ys.length ≤ 1000000 then some (.sh (.tup (xs ++ ys))) else none
  | _, _ => none
theorem RVs.nil_iff {S : Addr → Prop} {h : Heap} {vs : List Value} {ds : List D} (q : RVs S h vs ds) : vs = [] ↔ ds = [] := by
  have := q.length
  constructor
  · rintro rfl; exact List.length_eq_zero_iff.mp this.symm
  · rintro rfl; exact List.length_eq_zero_iff.mp this
theorem op_addD {G : Gd} : Op2 G (binaryOp .Add) addD := by
  intro cx sc ok ρ S s v w x y t rel rx ry e Q E out
  unfold addD at e; split at e
  · obtain ⟨_, rfl⟩ := rx.int; obtain ⟨_, rfl⟩ := ry.int; cases e
    exact PySem.P.add_int (out_sh out rel (.int _ _))
  · rename_i xs ys
    split at e
    · rename_i hl
      cases e
      obtain ⟨a, ⟨cls, dd, data, sl⟩, vs, n, rfl, h1, h2, h3, q1⟩ := rx.list
      obtain ⟨b, ⟨cls', dd', data', sl'⟩, ws, m, rfl, g1, g2, g3, q2⟩ := ry.list
      simp only at h2 h3 g2 g3
      subst h2 h3 g2 g3
      have l1 : vs.size = xs.length := by rw [← q1.length]; simp
      have l2 : ws.size = ys.length := by rw [← q2.length]; simp
      refine concat_meets ⟨_, h1, rfl⟩ ⟨_, g1, rfl⟩ noFill_list_add seq_list_add PySem.F.slot_list_add PySem.F.entry_list_add (PySem.F.args_list_add_2 _ _) (list_addW a b vs ws n m dd dd' sl sl' (by rw [l1, l2, sizeLine_eq]; omega)) ⟨h1, g1, ?_⟩
      refine out _ _ s.toks S (rel.push _) ?_ (ext_push _) fun _ => rel.same (kp_push _)
      refine fresh_list rel (kp_push _) (Heap.get?_none_of_le (Nat.le_refl _)) (Heap.get?_push_size _ rfl) ?_
      rw [Array.toList_append]
      exact (q2.append q1).ext (ext_push _)
    · cases e
  · rename_i xs ys
    split at e
    · rename_i hl
      cases e
      obtain ⟨a, ⟨cls, dd, data, sl⟩, vs, n, rfl, h1, h2, h3, q1⟩ := rx.tup
      obtain ⟨b, ⟨cls', dd', data', sl'⟩, ws, m, rfl, g1, g2, g3, q2⟩ := ry.tup
      simp only at h2 h3 g2 g3
      subst h2 h3 g2 g3
      have l1 : vs.size = xs.length := by rw [← q1.length]; simp
      have l2 : ws.size = ys.length := by rw [← q2.length]; simp
      by_cases c1 : vs.isEmpty = true
      · refine concat_meets ⟨_, h1, rfl⟩ ⟨_, g1, rfl⟩ noFill_tuple_add seq_tuple_add PySem.F.slot_tuple_add PySem.F.entry_tuple_add (PySem.F.args_tuple_add_2 _ _) (tuple_addW0 a b vs ws n m dd dd' sl sl' c1) ⟨h1, g1, ?_⟩
        have : xs = [] := (q1.nil_iff).mp (by simpa using c1)
        subst this
        exact out _ _ s.toks S rel (.tup g1 rfl rfl q2) (Ext.refl ..) fun _ => VarSame.refl _ _
      · by_cases c2 : ws.isEmpty = true
        · refine concat_meets ⟨_, h1, rfl⟩ ⟨_, g1, rfl⟩ noFill_tuple_add seq_tuple_add PySem.F.slot_tuple_add PySem.F.entry_tuple_add (PySem.F.args_tuple_add_2 _ _) (tuple_addW1 a b vs ws n m dd dd' sl sl' c1 c2) ⟨h1, g1, ?_⟩
          have : ys = [] := (q2.nil_iff).mp (by simpa using c2)
          subst this
          rw [List.append_nil] at out
          exact out _ _ s.toks S rel (.tup h1 rfl rfl q1) (Ext.refl ..) fun _ => VarSame.refl _ _
        · refine concat_meets ⟨_, h1, rfl⟩ ⟨_, g1, rfl⟩ noFill_tuple_add seq_tuple_add PySem.F.slot_tuple_add PySem.F.entry_tuple_add (PySem.F.args_tuple_add_2 _ _) (tuple_addW2 a b vs ws n m dd dd' sl sl' c1 c2 (by rw [l1, l2, sizeLine_eq]; omega)) ⟨h1, g1, ?_⟩
          refine out _ _ s.toks S (rel.push _) ?_ (ext_push _) fun _ => rel.same (kp_push _)
          refine .tup (Heap.get?_push_size _ rfl) rfl rfl ?_
          rw [Array.toList_append]
          exact (q2.append q1).ext (ext_push _)
    · cases e
  · cases e
noncomputable def mulD : D → D → Option T
  | .int a, .int b => if small a || small b then some (.sh (.int (a * b))) else none
  | .list [x], .int n => if 0 ≤ n ∧ n ≤ 1000000 then some (.ow true (.list (List.replicate n.toNat x))) else none
  | _, _ => none
theorem RVs.replicate {S : Addr → Prop} {h : Heap} {v : Value} {d : D} (q : RV S h v d) : ∀ (n : Nat), RVs S h (List.replicate n v) (List.replicate n d)
  | 0 => .nil
  | n + 1 => by rw [List.replicate_succ, List.replicate_succ]; exact .cons q (RVs.replicate q n)
theorem foldl_one (v : Value) : ∀ (n : Nat) (acc : Array Value), (List.foldl (fun x1 x2 => x1 ++ x2) acc (List.replicate n #[v])).toList = acc.toList ++ List.replicate n v
  | 0, acc => by simp
  | n + 1, acc => by
    rw [List.replicate_succ, List.foldl_cons, foldl_one v n]
    simp [List.replicate_succ]
theorem op_mulD {G : Gd} : Op2 G (binaryOp .Mult) mulD := by
  intro cx sc ok ρ S s v w x y t rel rx ry e
  unfold mulD at e; split at e
  · exact op_mul cx sc ok ρ S s v w _ _ t rel rx ry e
  · rename_i d n
    split at e
    · rename_i hn
      cases e
      obtain ⟨a, ⟨cls, dd, data, sl⟩, vs, m, rfl, h1, h2, h3, q1⟩ := rx.list
      obtain ⟨u, rfl⟩ := ry.int
      simp only at h2 h3
      subst h2 h3
      intro Q E out
      have hone : ∃ v, vs = #[v] ∧ RV S s.heap v d := by
        obtain ⟨l⟩ := vs
        simp only at q1
        cases q1 with | cons q r => cases r; exact ⟨_, rfl, q⟩
      obtain ⟨v, rfl, qv⟩ := hone
      refine wpAny_binaryOp_repeat_ref (T := "list") (U := "int") (by decide) ⟨_, h1, rfl⟩ (fun s' => typeIs_int s' n u) noFill_list_mul F.fills_int_mul F.slot_int_rmul repeat_list F.slot_int_index.lookup
        (call_meets F.slot_int_rmul (typeIs_int s n u) F.entry_int_rmul (F.args_int_rmul_2 _ _) (lm_int_rmul_list_any n u a #[v] m dd sl)
          ⟨h1, rfl, ⟨_, h1, rfl⟩, call_meets F.slot_list_mul ⟨_, h1, rfl⟩ F.entry_list_mul (F.args_list_mul_2 _ _)
            (lm_list_mul_any a #[v] m dd sl n u (by simp [Builtin.List.listFitsIndex]; omega) (by simp; omega) (by simp [Builtin.List.listTooLong, sizeLine]; omega))
            ⟨h1, ?_⟩⟩)
      refine out _ _ s.toks S (rel.push _) ?_ (ext_push _) fun _ => rel.same (kp_push _)
      refine fresh_list rel (kp_push _) (Heap.get?_none_of_le (Nat.le_refl _)) (Heap.get?_push_size _ rfl) ?_
      rw [show (#[v] : Array Value).isEmpty = false from rfl]
      simp only [Bool.false_eq_true, if_false]
      rw [foldl_one]
      exact (RVs.replicate qv n.toNat).ext (ext_push _)
    · cases e
  · cases e
end Mine
end

section
set_option Elab.async false
set_option maxRecDepth 100000
namespace Mine
open PySem PyProof.Rows
section
variable {G : Gd}
noncomputable def lenI : List D → Option T
  | [.list ds] => if ds.length ≤ 1000000 then some (.sh (.int ds.length)) else none
  | [.tup ds] => if ds.length ≤ 1000000 then some (.sh (.int ds.length)) else none
  | _ => none
theorem RBs.one {S : Addr → Prop} {h : Heap} {vs : List Value} {d : D} (q : RBs S h vs [d]) : ∃ v, vs = [v] ∧ RB S h v d := by
  cases q with | cons a b => cases b; exact ⟨_, rfl, a⟩
theorem RBs.two {S : Addr → Prop} {h : Heap} {vs : List Value} {d e : D} (q : RBs S h vs [d, e]) : ∃ v w, vs = [v, w] ∧ RB S h v d ∧ RB S h w e := by
  cases q with | cons a b => obtain ⟨w, rfl, r⟩ := b.one; exact ⟨_, _, rfl, a, r⟩
theorem op_len : OpN G (fun vs => call (.builtin "len") vs []) lenI := by
  intro cx sc ok ρ S s vs ds t rel q e Q E out
  unfold lenI at e; split at e
  · split at e
    · rename_i hl
      cases e
      obtain ⟨v, rfl, r⟩ := q.one
      obtain ⟨a, o, us, n, rfl, h1, h2, h3, k⟩ := r.list
      have hs := k.length
      rw [Array.length_toList] at hs
      refine PyProof.Rows.len_list ⟨o, h1, h2, n, h3⟩ (by rw [hs]; omega) ?_
      rw [hs]
      exact out_sh out rel (.int _ _)
    · cases e
  · split at e
    · rename_i hl
      cases e
      obtain ⟨v, rfl, r⟩ := q.one
      obtain ⟨a, o, us, n, rfl, h1, h2, h3, k⟩ := r.tup
      have hs := k.length
      rw [Array.length_toList] at hs
      refine PyProof.Rows.len_tuple ⟨o, h1, h2, n, h3⟩ (by rw [hs]; omega) ?_
      rw [hs]
      exact out_sh out rel (.int _ _)
    · cases e
  · cases e
noncomputable def rangeI : List D → Option T
  | [.int n] => some (.sh (.range 0 n 1))
  | [.int a, .int b] => some (.sh (.range a b 1))
  | [.int a, .int b, .int c] => if c ≠ 0 ∧ c.natAbs < 1073741824 then some (.sh (.range a b c)) else none
  | _ => none
theorem RBs.three {S : Addr → Prop} {h : Heap} {vs : List Value} {d e f : D} (q : RBs S h vs [d, e, f]) : ∃ v w u, vs = [v, w, u] ∧ RB S h v d ∧ RB S h w e ∧ RB S h u f := by
  cases q with | cons a b => obtain ⟨w, u, rfl, r, r'⟩ := b.two; exact ⟨_, _, _, rfl, a, r, r'⟩
theorem op_range : OpN G (fun vs => call (.type "range") vs []) rangeI := by
  intro cx sc ok ρ S s vs ds t rel q e Q E out
  unfold rangeI at e; split at e
  · cases e
    obtain ⟨v, rfl, r⟩ := q.one
    obtain ⟨u, rfl⟩ := r.int
    exact call_range_1 (out _ _ _ S (rel.push _) (.range (IsRange.new ..)) (ext_push _) fun _ => rel.same (kp_push _))
  · cases e
    obtain ⟨v, w, rfl, r, r'⟩ := q.two
    obtain ⟨u, rfl⟩ := r.int
    obtain ⟨u', rfl⟩ := r'.int
    exact call_range_2 (out _ _ _ S (rel.push _) (.range (IsRange.new ..)) (ext_push _) fun _ => rel.same (kp_push _))
  · split at e
    · rename_i hc
      cases e
      obtain ⟨v, w, x, rfl, r, r', r''⟩ := q.three
      obtain ⟨u, rfl⟩ := r.int
      obtain ⟨u', rfl⟩ := r'.int
      obtain ⟨u'', rfl⟩ := r''.int
      exact call_range_3 hc.1 (out _ _ _ S (rel.push _) (.range (IsRange.new ..)) (ext_push _) fun _ => rel.same (kp_push _)) (.inl (PyProof.noPylong_small hc.2))
    · cases e
  · cases e
end
noncomputable def rangeN (lo hi st : Int) : Nat := (Builtin.Range.rangeSize lo hi st).toNat
noncomputable def rangeL (lo hi st : Int) : List D := (List.range (rangeN lo hi st)).map fun (i : Nat) => .int (lo + i * st)
noncomputable def rangeFit (lo hi st : Int) : Bool := Builtin.Range.small lo hi st && decide (Builtin.Range.rangeSize lo hi st ≤ 1000000) && decide (0 ≤ Builtin.Range.rangeSize lo hi st)
theorem rangeFit_n {lo hi st : Int} (h : rangeFit lo hi st = true) : Builtin.Range.small lo hi st = true ∧ Builtin.Range.rangeSize lo hi st = (rangeN lo hi st : Int) ∧ rangeN lo hi st ≤ 1000000 := by
  unfold rangeFit at h
  simp only [Bool.and_eq_true, decide_eq_true_eq] at h
  refine ⟨h.1.1, ?_, ?_⟩ <;> unfold rangeN <;> omega
theorem RVs.of_get {S : Addr → Prop} {h : Heap} : ∀ {vs : List Value} {ds : List D}, vs.length = ds.length → (∀ (j : Nat) v, vs[j]? = some v → ∃ d, ds[j]? = some d ∧ RV S h v d) → RVs S h vs ds
  | [], [], _, _ => .nil
  | [], _ :: _, e, _ => by simp at e
  | _ :: _, [], e, _ => by simp at e
  | v :: vs, d :: ds, e, k => by
    obtain ⟨d', hd, q⟩ := k 0 v rfl
    simp at hd; subst hd
    exact .cons q (RVs.of_get (by simpa using e) fun j w hw => by simpa using k (j + 1) w (by simpa using hw))
theorem range_items {S : Addr → Prop} {h : Heap} {lo st : Int} {n : Nat} {acc : Array Value} (q : ItemsOf (fun i v => ∃ t, v = .int (lo + i * st) t) acc n) : RVs S h acc.toList ((List.range n).map fun (i : Nat) => D.int (lo + i * st)) := by
  refine RVs.of_get (by simp [q.1]) fun j v hv => ?_
  have hv' : acc[j]? = some v := by simpa using hv
  obtain ⟨t, rfl⟩ := q.2 j v hv'
  have hj : j < n := by
    have := (Array.getElem?_eq_some_iff.mp hv').1
    rw [q.1] at this; exact this
  exact ⟨.int (lo + j * st), by simp [hj], .int _ _⟩
section
variable {prog : Program} {w : World} {A : Around} {E : Value → Shared → Prop} {s : Shared}
theorem wpAny_collect_range {Q : List Value → Shared → Prop} {r : Addr} {a b c : Int} {t u v : Tok} {n : Nat} (hh : A.handled = none) (hr : IsRange s.heap r a b c t u v) (hsmall : Builtin.Range.small a b c = true)
    (hn : Builtin.Range.rangeSize a b c = n) (hlen : n ≤ 2 ^ 24)
    (hQ : ∀ h' tk (acc : Array Value), (∀ b o', s.heap.get? b = some o' → h'.get? b = some o') → ItemsOf (fun i v => ∃ t, v = .int (a + i * c) t) acc n → Q acc.toList { s with heap := h', toks := tk }) :
    wpAny (model prog w) A (collect (.ref r)) Q E s := by
  unfold collect
  refine wpAny_bind (wpAny_runValue (codeAny_builtin F.entry_proto_collect ?_))
  rw [Around.under_plainId F.plain_proto_collect _]
  show wpAny _ A.in1 (newList [] >>= fun l => again (.builtin "list.__iadd__" ⟨[l, .ref r], []⟩)) _ _ s
  refine wpAny_bind (wpAny_newObj_type ?_)
  refine wpAny_pure ⟨plainId_quiet F.plain_list_iadd _, codeAny_builtin F.entry_list_iadd ?_⟩
  rw [Around.under_plainId F.plain_list_iadd _]
  show wpAny _ A.in1 (Builtin.List.listExtendWith (.ref s.heap.objs.size) (.ref r) (.ref s.heap.objs.size)) _ _ _
  have hS : (s.heap.push { cls := .type "list", data := .seq ([] : List Value).toArray }).get? s.heap.objs.size = some { cls := .type "list", data := .seq #[] 0 } := Heap.get?_push_size _ rfl
  have fin' : ∀ h' tk (acc : Array Value) c', (∀ b o, b ≠ s.heap.objs.size → (s.heap.push { cls := .type "list", data := .seq ([] : List Value).toArray }).get? b = some o → h'.get? b = some o) → h'.get? s.heap.objs.size = some { cls := .type "list", dict := none, data := .seq acc c', slots := #[] } → ItemsOf (fun i v => ∃ t, v = .int (a + i * c) t) acc n → wpAny (model prog w) A (match Value.ref s.heap.objs.size with
      | Value.ref a => do
        match (← load a).data with
          | Data.seq xs _ => pure xs.toList
          | _ => unsupported "internal:collect"
      | _ => unsupported "internal:collect") Q E { s with heap := h', toks := tk } := by
    intro h' tk acc c' hk hS' hacc
    show wpAny _ A (load s.heap.objs.size >>= _) _ _ _
    refine wpAny_bind (wpAny_load hS' ?_)
    refine wpAny_pure ?_
    exact hQ _ _ _ (fun b o' hb => hk b o' (Nat.ne_of_lt (Heap.lt_size hb)) (Heap.get?_push_of_some _ hb)) hacc
  refine wpAny_mono (wpAny_extend_range (A := A) (R := fun r s' => ∃ h' tk acc c', (∀ b o, b ≠ s.heap.objs.size → (s.heap.push { cls := .type "list", data := .seq ([] : List Value).toArray }).get? b = some o → h'.get? b = some o) ∧ h'.get? s.heap.objs.size = some { cls := .type "list", dict := none, data := .seq acc c', slots := #[] } ∧ ItemsOf (fun i v => ∃ t, v = .int (a + i * c) t) acc n ∧ r = .ok (.ret (.ref s.heap.objs.size)) ∧ s' = { s with heap := h', toks := tk })
    (s := { s with heap := s.heap.push { cls := .type "list", data := .seq ([] : List Value).toArray } }) hh (Heap.get?_push_of_some _ hr) hsmall hn hlen _ _ 0 hS fun h' tk acc c' hk hS' hacc => ⟨h', tk, acc, c', hk, hS', hacc, rfl, rfl⟩) (fun fin s' h => ?_) (fun e s' h => ?_)
  · cases fin with
    | done f =>
      obtain ⟨h', tk, acc, c', hk, hS', hacc, e, rfl⟩ := h
      cases e
      exact fin' h' tk acc c' hk hS' hacc
    | again c' => exact ⟨h.1, codeAny_mono h.2 fun r s'' hr => by obtain ⟨h', tk, acc, c', hk, hS', hacc, rfl, rfl⟩ := hr; exact fin' h' tk acc c' hk hS' hacc⟩
  · obtain ⟨_, _, _, _, _, _, _, e, _⟩ := h; cases e
end
open AutoSeq1 (wpAny_loadPart') in
theorem meets_tuple_new_range {r : Addr} {a b c : Int} {t u v : Tok} {n : Nat} (hsmall : Builtin.Range.small a b c = true) (hn : Builtin.Range.rangeSize a b c = n) (hlen : n ≤ 2 ^ 24) :
    Meets (Builtin.«tuple.__new__» ⟨[.type "tuple", .ref r], []⟩)
      (fun A R s => A.handled = none ∧ IsRange s.heap r a b c t u v ∧ ∀ (h' : Heap) (tk : Nat) (acc : Array Value), (∀ b o', s.heap.get? b = some o' → h'.get? b = some o') → ItemsOf (fun i v => ∃ t, v = .int (a + i * c) t) acc n → R (.ok (.ret (.ref h'.objs.size))) { s with heap := h'.push { cls := .type "tuple", data := .seq acc }, toks := tk }) :=
  .of_wp fun prog w A R s h => by
    obtain ⟨hp, g, d, tk, os⟩ := s; obtain ⟨hh, ht, h⟩ := h
    have hsub := sub_tuple_self
    have hinit := init_tuple_lookup
    have hmh := madeHere_tuple
    have hT : Shared.TypeIs ⟨hp, g, d, tk, os⟩ (.ref r) "range" := ⟨_, ht, rfl⟩
    wp_walk using wpAny_loadPart' ht, wpAny_typeOf hT, wpAny_collect_range (A := A.in1) hh ht hsmall hn hlen
    intro h' tk' acc hk hacc
    show wpAny _ _ (Builtin.Tuple.tupleExact acc.toList.toArray >>= fun v => ret v) _ _ _
    unfold Builtin.Tuple.tupleExact
    refine wpAny_bind (wpAny_newObj_type ?_ (by show acc.toList.toArray.size ≤ sizeLine; have := hacc.1; simp only [Array.toArray_toList]; rw [sizeLine_eq]; omega))
    refine wpAny_pure ⟨_, rfl, ?_⟩
    have e : acc.toList.toArray = acc := by simp
    rw [e]
    exact h h' tk' acc hk hacc
theorem call_tuple_range {prog : Program} {w : World} {A : Around} {E : Value → Shared → Prop} {s : Shared} {r : Addr} {a b c : Int} {t u v : Tok} {n : Nat} {Q : Value → Shared → Prop} (hh : A.handled = none) (hr : IsRange s.heap r a b c t u v) (hsmall : Builtin.Range.small a b c = true)
    (hn : Builtin.Range.rangeSize a b c = n) (hlen : n ≤ 2 ^ 24)
    (h : ∀ (h' : Heap) (tk : Nat) (acc : Array Value), (∀ b o', s.heap.get? b = some o' → h'.get? b = some o') → ItemsOf (fun i v => ∃ t, v = .int (a + i * c) t) acc n → Q (.ref h'.objs.size) { s with heap := h'.push { cls := .type "tuple", data := .seq acc }, toks := tk }) :
    wpAny (model prog w) A (call (.type "tuple") [.ref r]) Q E s :=
  callType_new F.called_tuple (by decide) (F.typeCall_tuple_1 _) (F.newCall_tuple_1 _) (fun obj => F.args_object_init_2 obj _) F.entry_tuple_new
    (meets_tuple_new_range hsmall hn hlen) ⟨hh, hr, fun h' tk acc hk hacc => ⟨⟨_, Heap.get?_push_size _ rfl, rfl⟩, h h' tk acc hk hacc⟩⟩
section
variable {G : Gd}
noncomputable def listI : List D → Option T
  | [.list ds] => if ds.length ≤ 1000000 then some (.ow true (.list ds)) else none
  | [.tup ds] => if ds.length ≤ 1000000 then some (.ow true (.list ds)) else none
  | [.range lo hi st] => if rangeFit lo hi st then some (.ow true (.list (rangeL lo hi st))) else none
  | _ => none
theorem Rel.keepsE {cx : Cx} {sc : Scope} {ρ : AEnv} {S : Addr → Prop} {h h' : Heap} (r : Rel G cx sc ρ S h) (k : ∀ b o, h.get? b = some o → h'.get? b = some o) : Rel G cx sc ρ S h' ∧ Ext S h S h' ∧ VarSame cx.env h h' := ⟨r.keeps k, Ext.of_keeps k, r.same (.of_keeps k)⟩
theorem op_list (hq : G.quiet = true) : OpN G (fun vs => call (.type "list") vs []) listI := by
  intro cx sc ok ρ S s vs ds t rel q e Q E out
  have hsz : s.heap.get? s.heap.objs.size = none := Heap.get?_none_of_le (Nat.le_refl _)
  unfold listI at e; split at e
  · split at e
    · rename_i hl
      cases e
      obtain ⟨v, rfl, r⟩ := q.one
      obtain ⟨a, o, us, n, rfl, h1, h2, h3, k⟩ := r.list
      have hs := k.length
      rw [Array.length_toList] at hs
      refine call_list_seq a (.inl rfl) h1 h2 h3 (fun h' c' hk hD => ?_) (by rw [hs, sizeLine_eq]; omega)
      obtain ⟨r', x', v'⟩ := rel.keepsE hk
      exact out _ h' s.toks S r' (fresh_list rel (.of_keeps hk) hsz hD (k.ext x')) x' fun _ => v'
    · cases e
  · split at e
    · rename_i hl
      cases e
      obtain ⟨v, rfl, r⟩ := q.one
      obtain ⟨a, o, us, n, rfl, h1, h2, h3, k⟩ := r.tup
      have hs := k.length
      rw [Array.length_toList] at hs
      refine call_list_seq a (.inr rfl) h1 h2 h3 (fun h' c' hk hD => ?_) (by rw [hs, sizeLine_eq]; omega)
      obtain ⟨r', x', v'⟩ := rel.keepsE hk
      exact out _ h' s.toks S r' (fresh_list rel (.of_keeps hk) hsz hD (k.ext x')) x' fun _ => v'
    · cases e
  · split at e
    · rename_i hf
      cases e
      obtain ⟨f1, f2, f3⟩ := rangeFit_n hf
      obtain ⟨v, rfl, r⟩ := q.one
      have r := r.rv fun _ e => by cases e
      cases r with
      | range hr =>
        refine call_list_range (ok.hd hq) hr f1 f2 (by omega) fun h' tk acc c' hk hD hacc => ?_
        obtain ⟨r', x', v'⟩ := rel.keepsE hk
        exact out _ h' tk S r' (fresh_list rel (.of_keeps hk) hsz hD (range_items hacc)) x' fun _ => v'
    · cases e
  · cases e
noncomputable def tupleI : List D → Option T
  | [.list ds] => if ds.length ≤ 1000000 then some (.sh (.tup ds)) else none
  | [.tup ds] => some (.sh (.tup ds))
  | [.range lo hi st] => if rangeFit lo hi st then some (.sh (.tup (rangeL lo hi st))) else none
  | _ => none
theorem op_tuple (hq : G.quiet = true) : OpN G (fun vs => call (.type "tuple") vs []) tupleI := by
  intro cx sc ok ρ S s vs ds t rel q e Q E out
  unfold tupleI at e; split at e
  · split at e
    · rename_i hl
      cases e
      obtain ⟨v, rfl, r⟩ := q.one
      obtain ⟨a, o, us, n, rfl, h1, h2, h3, k⟩ := r.list
      have hs := k.length
      rw [Array.length_toList] at hs
      refine call_tuple_list ⟨o, h1, h2, n, h3⟩ (fun h' hk => ?_) (by rw [hs, sizeLine_eq]; omega)
      have hk' : ∀ b o, s.heap.get? b = some o → (h'.push { cls := .type "tuple", data := .seq us }).get? b = some o := fun b o e => Heap.get?_push_of_some _ (hk b o e)
      obtain ⟨r', x', v'⟩ := rel.keepsE hk'
      exact out _ _ s.toks S r' (.tup (Heap.get?_push_size _ rfl) rfl rfl (k.ext x')) x' fun _ => v'
    · cases e
  · cases e
    obtain ⟨v, rfl, r⟩ := q.one
    obtain ⟨a, o, us, n, rfl, h1, h2, h3, k⟩ := r.tup
    exact call_tuple_tup ⟨o, h1, h2, n, h3⟩ (out_sh out rel (tk := s.toks) (.tup h1 h2 h3 k))
  · split at e
    · rename_i hf
      cases e
      obtain ⟨f1, f2, f3⟩ := rangeFit_n hf
      obtain ⟨v, rfl, r⟩ := q.one
      have r := r.rv fun _ e => by cases e
      cases r with
      | range hr =>
        refine call_tuple_range (ok.hd hq) hr f1 f2 (by omega) fun h' tk acc hk hacc => ?_
        have hk' : ∀ b o, s.heap.get? b = some o → (h'.push { cls := .type "tuple", data := .seq acc }).get? b = some o := fun b o e => Heap.get?_push_of_some _ (hk b o e)
        obtain ⟨r', x', v'⟩ := rel.keepsE hk'
        exact out _ _ tk S r' (.tup (Heap.get?_push_size _ rfl) rfl rfl (range_items hacc)) x' fun _ => v'
    · cases e
  · cases e
noncomputable def strI : List D → Option T
  | [.int i] => if i.natAbs < 2 ^ 300 then some (.sh (.str (toString i))) else none
  | _ => none
noncomputable def boolsOf : List D → Option (List Bool)
  | [] => some []
  | .bool b :: ds => (boolsOf ds).map (b :: ·)
  | _ => none
noncomputable def allI : List D → Option T
  | [.list ds] => (boolsOf ds).map fun bs => .sh (.bool (bs.all id))
  | _ => none
theorem bools_get {S : Addr → Prop} {h : Heap} : ∀ {vs : List Value} {ds : List D} {bs : List Bool}, RVs S h vs ds → boolsOf ds = some bs → vs.length = bs.length ∧ ∀ (i : Nat) v, vs[i]? = some v → ∃ b, bs[i]? = some b ∧ v = .bool b
  | _, _, _, .nil, e => by simp [boolsOf] at e; subst e; simp
  | _, _, _, .cons (d := d) q r, e => by
    cases d with
    | bool b =>
      rw [boolsOf] at e
      obtain ⟨bs, hb, rfl⟩ := Option.map_eq_some_iff.mp e
      obtain ⟨l, m⟩ := bools_get r hb
      cases q
      refine ⟨by simp [l], fun i v hv => ?_⟩
      cases i with
      | zero => simp at hv; subst hv; exact ⟨b, rfl, rfl⟩
      | succ i => simpa using m i v (by simpa using hv)
    | _ => simp [boolsOf] at e
theorem all_range (bs : List Bool) : ((List.range bs.length).all fun i => bs[i]?.getD false) = bs.all id := by
  rw [Bool.eq_iff_iff]
  simp only [List.all_eq_true, List.mem_range]
  constructor
  · intro h b hb
    obtain ⟨i, hi, rfl⟩ := List.mem_iff_getElem.mp hb
    have := h i hi
    simpa [hi] using this
  · intro h i hi
    have := h bs[i] (List.getElem_mem hi)
    simpa [hi] using this
theorem op_all (hq : G.quiet = true) : OpN G (fun vs => call (.builtin "all") vs []) allI := by
  intro cx sc ok ρ S s vs ds t rel q e Q E out
  unfold allI at e; split at e
  · rename_i ds
    obtain ⟨bs, hb, rfl⟩ := Option.map_eq_some_iff.mp e
    obtain ⟨v, rfl, r⟩ := q.one
    obtain ⟨a, o, us, n, rfl, h1, h2, h3, k⟩ := r.list
    obtain ⟨hlen, hget⟩ := bools_get k hb
    have il : s.heap.IsList a us := ⟨o, h1, h2, n, h3⟩
    refine call_all_walk (wpAny_pyIter_list il ?_)
    have hne : a ≠ s.heap.objs.size := fun e => by rw [e] at h1; rw [Heap.get?_none_of_le (Nat.le_refl _)] at h1; cases h1
    refine ⟨_, _, _, _, _, _, fun i => bs[i]?.getD false, rfl, Walks.list (A := cx.A.in1) (ok.hd hq) _ a hne us, ⟨⟨_, Heap.get?_push_size _ rfl, rfl, rfl⟩, il.push _⟩, fun i v s' Q' E' hP hQ' => ?_, fun h' tk hk => ?_⟩
    · obtain ⟨b, hb', rfl⟩ := hget i v (by simpa using hP)
      simp only [hb', Option.getD_some] at hQ'
      exact wpAny_truthy_bool hQ'
    · have hs : us.size = bs.length := by rw [← hlen]; simp
      rw [hs, all_range]
      have hk' : ∀ b o, s.heap.get? b = some o → h'.get? b = some o := fun b o e => hk b o (by simp; rintro rfl; rw [Heap.get?_none_of_le (Nat.le_refl _)] at e; cases e) (Heap.get?_push_of_some _ e)
      obtain ⟨r', x', v'⟩ := rel.keepsE hk'
      exact out _ h' tk S r' (.bool _) x' fun _ => v'
  · cases e
end
end Mine
end

section
set_option Elab.async false
set_option maxRecDepth 100000
namespace Mine
open PySem PyProof.Rows
noncomputable def intsOf : List D → Option (List Int)
  | [] => some []
  | .int i :: ds => (intsOf ds).map (i :: ·)
  | _ => none
noncomputable def sortI (ns : List Int) : List Int := ns.mergeSort (fun a b => decide (a ≤ b))
noncomputable def sortedI : List D → Option T
  | [.list ds] => (intsOf ds).bind fun ns => if ns.length < 64 then some (.ow true (.list ((sortI ns).map .int))) else none
  | [.tup ds] => (intsOf ds).bind fun ns => if ns.length < 64 then some (.ow true (.list ((sortI ns).map .int))) else none
  | _ => none
theorem ints_are {S : Addr → Prop} {h : Heap} : ∀ {vs : List Value} {ds : List D} {ns : List Int}, RVs S h vs ds → intsOf ds = some ns → IntsAre vs ns
  | _, _, _, .nil, e => by simp [intsOf] at e; subst e; exact .nil
  | _, _, _, .cons (d := d) q r, e => by
    cases d with
    | int i =>
      rw [intsOf] at e
      obtain ⟨ns, hn, rfl⟩ := Option.map_eq_some_iff.mp e
      cases q
      exact .cons _ _ (ints_are r hn)
    | _ => simp [intsOf] at e
theorem ints_rvs {S : Addr → Prop} {h : Heap} : ∀ {vs : List Value} {ns : List Int}, IntsAre vs ns → RVs S h vs (ns.map .int)
  | _, _, .nil => .nil
  | _, _, .cons n t r => .cons (.int n t) (ints_rvs r)
theorem sort_unique {ns ns' : List Int} (p : ns'.Perm ns) (s : ns'.Pairwise (· ≤ ·)) : ns' = sortI ns := by
  have hs : (sortI ns).Pairwise (· ≤ ·) := by
    have := List.pairwise_mergeSort (le := fun a b : Int => decide (a ≤ b)) (fun a b c h1 h2 => by simp at *; omega) (fun a b => by simp; omega) ns
    exact this.imp fun h => by simpa using h
  exact List.Perm.eq_of_pairwise (fun a b _ _ h1 h2 => by omega) s hs (p.trans (List.mergeSort_perm ns _).symm)
section
variable {prog : Program} {w : World} {A : Around} {E : Value → Shared → Prop} {s : Shared}
theorem sorted_seq {l : Addr} {o : Obj} {vs : Array Value} {n : Nat} {T : String} {ns : List Int} {Q : Value → Shared → Prop} (hT : T = "list" ∨ T = "tuple") (ho : s.heap.get? l = some o) (hc : o.cls = .type T) (hd : o.data = .seq vs n) (hI : IntsAre vs.toList ns) (h64 : vs.size < 64)
    (h : ∀ (h' : Heap) (a : Addr) (e : Nat) (out : Array Value) (ns' : List Int), (∀ b o, s.heap.get? b = some o → h'.get? b = some o) → s.heap.get? a = none → h'.get? a = some (seqObj "list" out e) → IntsAre out.toList ns' → ns'.Perm ns → ns'.Pairwise (· ≤ ·) → Q (.ref a) { s with heap := h' }) :
    wpAny (model prog w) A (call (.builtin "sorted") [.ref l]) Q E s := by
  refine Calls.call_function_entry kind_sorted plain_sorted entry_sorted (args_sorted1 _) ?_
  unfold Builtin.«sorted»
  refine wpAny_bind (m := checkCount "sorted" 1 1 _) (wpAny_pure ?_)
  refine wpAny_bind (wpAny_collect_seq l hT ho hc hd (fun h₁ hk₁ => ?_) (by rw [sizeLine_eq]; omega))
  refine wpAny_bind (wpAny_newList ?_ (by rw [Array.length_toList, sizeLine_eq]; omega))
  have hoL : (h₁.push (seqObj "list" vs.toList.toArray 0)).get? h₁.objs.size = some (seqObj "list" vs.toList.toArray 0) := Heap.get?_push_size _ rfl
  refine wpAny_bind (wpAny_holding (wpAny_call_entry slot_list_sort ⟨_, hoL, rfl⟩ entry_list_sort (list_sort_tree hoL hI (by simpa using h64) fun out ns' a1 a2 a3 => ⟨_, rfl, ?_⟩) (args_list_sort _)))
  obtain ⟨e, he⟩ := sortedHeap_at (out := out) hoL
  have hn : s.heap.get? h₁.objs.size = none := by
    cases q : s.heap.get? h₁.objs.size with
    | none => rfl
    | some o => have := Heap.lt_size (hk₁ _ _ q); exact absurd this (Nat.lt_irrefl _)
  refine wpAny_pure ⟨_, rfl, h _ _ e out ns' (fun b o eb => ?_) hn he a1 a2 a3⟩
  have hlt := Heap.lt_size (hk₁ b o eb)
  rw [sortedHeap_old (Nat.ne_of_lt hlt) (by rw [size_push']; exact Nat.lt_succ_of_lt hlt)]
  exact Heap.get?_push_of_some _ (hk₁ b o eb)
end
theorem ints_len : ∀ {ds : List D} {ns : List Int}, intsOf ds = some ns → ds.length = ns.length
  | [], _, e => by simp [intsOf] at e; subst e; rfl
  | d :: ds, ns, e => by
    cases d with
    | int i =>
      rw [intsOf] at e
      obtain ⟨ns, hn, rfl⟩ := Option.map_eq_some_iff.mp e
      simp [ints_len hn]
    | _ => simp [intsOf] at e
theorem op_sorted {G : Gd} : OpN G (fun vs => call (.builtin "sorted") vs []) sortedI := by
  intro cx sc ok ρ S s vs ds t rel q e Q E out
  unfold sortedI at e; split at e
  · obtain ⟨ns, hn, e⟩ := Option.bind_eq_some_iff.mp e
    split at e
    · rename_i hl
      cases e
      obtain ⟨v, rfl, r⟩ := q.one
      obtain ⟨a, o, us, n, rfl, h1, h2, h3, k⟩ := r.list
      have hs := k.length
      rw [Array.length_toList, ints_len hn] at hs
      refine sorted_seq (.inl rfl) h1 h2 h3 (ints_are k hn) (by omega) fun h' b e ot ns' hk hb he i1 p1 s1 => ?_
      obtain ⟨r', x', v'⟩ := rel.keepsE hk
      refine out _ h' s.toks S r' (fresh_list rel (.of_keeps hk) hb he ?_) x' fun _ => v'
      rw [← sort_unique p1 s1]
      exact ints_rvs i1
    · cases e
  · obtain ⟨ns, hn, e⟩ := Option.bind_eq_some_iff.mp e
    split at e
    · rename_i hl
      cases e
      obtain ⟨v, rfl, r⟩ := q.one
      obtain ⟨a, o, us, n, rfl, h1, h2, h3, k⟩ := r.tup
      have hs := k.length
      rw [Array.length_toList, ints_len hn] at hs
      refine sorted_seq (.inr rfl) h1 h2 h3 (ints_are k hn) (by omega) fun h' b e ot ns' hk hb he i1 p1 s1 => ?_
      obtain ⟨r', x', v'⟩ := rel.keepsE hk
      refine out _ h' s.toks S r' (fresh_list rel (.of_keeps hk) hb he ?_) x' fun _ => v'
      rw [← sort_unique p1 s1]
      exact ints_rvs i1
    · cases e
  · cases e
section
variable {G : Gd} {cx : Cx} {sc : Scope} {ρ : AEnv} {S : Addr → Prop} {h h' : Heap}
theorem RV.but {S : Addr → Prop} {h h' : Heap} {a : Addr} {o : Obj} (e : h.get? a = some o) (ho : ¬ Imm o) (hs : ¬ S a) (k : ∀ b o, b ≠ a → h.get? b = some o → h'.get? b = some o) (ha : ∃ o, h'.get? a = some o) : Ext S h S h' :=
  ⟨fun _ q => q, fun b ob eb q => ⟨ob.slots, k b ob (by rintro rfl; rw [e] at eb; cases eb; exact q.elim hs ho) eb, fun _ => rfl⟩, fun b ob eb => by
    by_cases hb : b = a
    · subst hb; exact ha
    · exact ⟨ob, k b ob hb eb⟩⟩
theorem notImm_list {vs : Array Value} {n : Nat} : ¬ Imm { cls := .type "list", data := .seq vs n } := by
  rintro (⟨q, _⟩ | ⟨_, q⟩)
  · exact absurd q (by simp)
  · cases q
theorem Rel.mutate {i : Nat} {x : Str} {ds ds' : List D} {a : Addr} {vs' : Array Value} {n' : Nat} (r : Rel G cx sc ρ S h) (bh : G.B.StaysIn cx.h₀) (hx : (varNames sc)[i]? = some x) (ht : ρ[i]? = some (some (.ow true (.list ds)))) (hv : Var cx.env h x (.ref a))
    (k : Heap.SameBut a h h') (e' : h'.get? a = some { cls := .type "list", data := .seq vs' n' }) (q' : RVs S h vs'.toList ds') :
    Rel G cx sc (ρ.set i (some (.ow true (.list ds')))) S h' ∧ Ext S h S h' ∧ VarSame cx.env h h' := by
  obtain ⟨w, hw, b, rfl, ns, ⟨vs, n, e, q⟩, hn⟩ := r.vars i x _ hx ht
  cases Var.inj hv hw
  have hn := hn rfl
  have x' : Ext S h S h' := RV.but e notImm_list ns (fun b o hb eb => (k.2 b hb).trans eb) ⟨_, e'⟩
  have lt : i < ρ.length := (List.getElem?_eq_some_iff.mp ht).1
  have hl : cx.env.locals ≠ a := by
    rintro rfl
    obtain ⟨m', o', es, ep, e', hd', _⟩ := r.ns
    rw [e] at e'; cases e'; cases hd'
  have hcell : ∀ y c, cx.env.cells.lookup y = some c → c ≠ a := r.notCell e (by intro v q; cases q)
  have nsame : ∀ m, h.Ns cx.env.locals m → h'.Ns cx.env.locals m := fun m n => n.sameBut k hl
  have csame : ∀ y c, cx.env.cells.lookup y = some c → ∀ w, h.IsCell c w → h'.IsCell c w := fun y c q w n => n.sameBut k (hcell y c q)
  have hb : VarSame cx.env h h' := fun y w q => by
    rcases q with ⟨a, m₁, b, c⟩ | ⟨a, c, b, d⟩
    · exact .inl ⟨a, m₁, nsame m₁ b, c⟩
    · exact .inr ⟨a, c, b, csame y c b _ d⟩
  have hf : ∀ y w, Var cx.env h' y w → Var cx.env h y w := fun y w q => by
    rcases q with ⟨a, m₁, b, c⟩ | ⟨a, c, b, d⟩
    · obtain ⟨m₀, n₀⟩ := r.ns
      exact .inl ⟨a, m₀, n₀, by rw [(nsame m₀ n₀).agree b y]; exact c⟩
    · obtain ⟨w₀, n₀⟩ := r.cells y c b
      exact .inr ⟨a, c, b, by rw [IsCell.inj d (csame y c b _ n₀)]; exact n₀⟩
  have pick : ∀ (j : Nat) (u : T), (ρ.set i (some (T.ow true (.list ds'))))[j]? = some (some u) → (j = i ∧ u = .ow true (.list ds')) ∨ (j ≠ i ∧ ρ[j]? = some (some u)) := fun j u hj => by
    by_cases hji : j = i
    · subst hji
      rw [List.getElem?_set_self lt] at hj; cases hj
      exact .inl ⟨rfl, rfl⟩
    · rw [List.getElem?_set_ne (Ne.symm hji)] at hj
      exact .inr ⟨hji, hj⟩
  have old : ∀ (j : Nat) (m : Bool) (d : D), (ρ.set i (some (T.ow true (.list ds'))))[j]? = some (some (.ow m d)) → ∃ d', ρ[j]? = some (some (.ow m d')) := fun j m d hj => by
    rcases pick j _ hj with ⟨rfl, q⟩ | ⟨_, q⟩
    · cases q; exact ⟨_, ht⟩
    · exact ⟨d, q⟩
  refine ⟨⟨fun b o q => (k.2 b (by rintro rfl; rw [bh _ _ q] at hn; cases hn)).trans (r.base b o q), fun b o q => ?_, fun env he => ?_, let ⟨m, n⟩ := r.ns; ⟨m, nsame m n⟩, fun y c q => let ⟨w, n⟩ := r.cells y c q; ⟨w, csame y c q w n⟩, fun b q => let ⟨o, eo⟩ := r.sdom b q; x'.dom b o eo, r.sok, r.sloc, r.scell, fun y b hdy q => let ⟨o, eo⟩ := r.live y b hdy (hf y _ q); x'.dom b o eo, fun j y m d hy hj => ?_, fun v q => let ⟨C, e⟩ := r.hok v q; ⟨C, e.ext x'⟩, fun j y u hy hu => ?_, fun j l y z m m' d d' u hy hz hj hl a b => ?_⟩, x', hb⟩
  · obtain ⟨sl, q₁, k₁⟩ := r.keep b o q
    exact ⟨sl, (k.2 b (by rintro rfl; rw [q] at hn; cases hn)).trans q₁, k₁⟩
  · obtain ⟨p, L, o, b, c, d, es, n, q⟩ := r.ff env he
    refine ⟨p, L, o, b, c, (k.2 L ?_).trans d, es, n, q⟩
    rintro rfl
    rw [e] at d; cases d; cases q
  · obtain ⟨d', hj'⟩ := old j m d hj
    exact r.clean j y m d' hy hj'
  · rcases pick j u hu with ⟨rfl, rfl⟩ | ⟨hji, hu⟩
    · rw [hx] at hy; cases hy
      exact ⟨_, hb _ _ hv, a, rfl, ns, ⟨vs', n', e', q'.ext x'⟩, fun _ => hn⟩
    · obtain ⟨w, hw', tw⟩ := r.vars j y u hy hu
      refine ⟨w, hb y w hw', ?_⟩
      cases u with
      | sh d => exact RV.ext x' tw
      | ow m d =>
        obtain ⟨b, rfl, n1, ow, n2⟩ := tw
        refine ⟨b, rfl, n1, ow.ext x' fun o eo => (k.2 b ?_).trans eo, n2⟩
        rintro rfl
        exact hji (r.inj j i y x m true d _ _ hy hx hu ht hw' hv)
  · obtain ⟨d₁, h1⟩ := old j m d hj
    obtain ⟨d₂, h2⟩ := old l m' d' hl
    exact r.inj j l y z m m' d₁ d₂ u hy hz h1 h2 (hf y _ a) (hf z _ b)
end
noncomputable def ownList (ρ : AEnv) (i : Nat) : Option (List D) := match ρ[i]? with
  | some (some (.ow true (.list ds))) => if ds.length ≤ 1000000 then some ds else none
  | _ => none
theorem ownList_eq {ρ : AEnv} {i : Nat} {ds : List D} (h : ownList ρ i = some ds) : ρ[i]? = some (some (.ow true (.list ds))) ∧ ds.length ≤ 1000000 := by
  unfold ownList at h
  split at h
  · rename_i ds' e
    split at h
    · cases h; exact ⟨e, by assumption⟩
    · cases h
  · cases h
theorem Rel.own {G : Gd} {cx : Cx} {sc : Scope} {ρ : AEnv} {S : Addr → Prop} {h : Heap} {i : Nat} {x : Str} {ds : List D} (r : Rel G cx sc ρ S h) (hx : (varNames sc)[i]? = some x) (ht : ρ[i]? = some (some (.ow true (.list ds)))) :
    ∃ a vs n, Var cx.env h x (.ref a) ∧ h.get? a = some { cls := .type "list", data := .seq vs n } ∧ RVs S h vs.toList ds ∧ vs.size = ds.length := by
  obtain ⟨w, hw, a, rfl, _, ⟨vs, n, e, q⟩, _⟩ := r.vars i x _ hx ht
  exact ⟨a, vs, n, hw, e, q, by rw [← q.length]; simp⟩
theorem seq_update {h : Heap} {a : Addr} {vs : Array Value} {n : Nat} (f : Array Value → Array Value) (e : h.get? a = some { cls := .type "list", data := .seq vs n }) : ∃ n', (h.update a (Obj.mapSeq f)).get? a = some { cls := .type "list", data := .seq (f vs) n' } := by
  have := Heap.get?_update_self (Obj.mapSeq f) e (by rfl)
  exact ⟨_, this⟩
noncomputable def eAppend (i : Nat) (f : AEnv → Res T) : AEnv → Res T := fun ρ => match ownList ρ i with
  | none => .stuck
  | some _ => (f ρ).bind fun t ρ₁ => match ownList ρ₁ i with
    | some ds => .ok (.sh .none) (ρ₁.set i (some (.ow true (.list (ds ++ [t.val])))))
    | none => .stuck
noncomputable def ePop (i : Nat) (f : AEnv → Res Bv) : AEnv → Res T := fun ρ => match ownList ρ i with
  | none => .stuck
  | some _ => (f ρ).bind fun t ρ₁ => match t.get ρ₁, ownList ρ₁ i with
    | some (.int j), some ds => if 0 ≤ j ∧ j < ds.length then (match ds[j.toNat]? with
      | some d => .ok (.sh d) (ρ₁.set i (some (.ow true (.list (ds.eraseIdx j.toNat)))))
      | none => .stuck) else .stuck
    | _, _ => .stuck
noncomputable def SimM (G : Gd) (k : Nat) (sc : Scope) (e : Expr) (f : AEnv → Res T) : Prop :=
  ∀ cx, CxOk G cx sc k → FnOk G cx → ∀ ρ S s, Rel G cx sc ρ S s.heap → Does G cx sc true (eval e cx.env) S s (fun S' h' v t => TTmp cx S' h' v t) (f ρ)
theorem SimM.of {G : Gd} {k : Nat} {sc : Scope} {e : Expr} {f : AEnv → Res T} (h : Sim G k sc e f) : SimM G k sc e f := fun cx ok _ => h cx ok
section
variable {G : Gd} {k : Nat} {sc : Scope}
theorem sim_append {x : Str} {p apos pos : Pos} {e : Expr} {i : Nat} {f : AEnv → Res T} (he : SimM G k sc e f) (hx : (varNames sc)[i]? = some x) (hd : (x == ("__debug__" : Str)) = false) (hn : (x == ("__classdict__" : Str)) = false)
    (hu : ∀ env, backTo pos (starEach [e] env) = [(false, eval e env)]) (hline : (apos.endLine == pos.line) = true) : SimM G k sc (.Call (.Attribute (.Name x p) "append" apos) [e] [] pos) (eAppend i f) := by
  intro cx ok fn ρ S s r Q E out
  unfold eAppend at out
  split at out
  · exact out.elim
  · rename_i ds₀ h0
    obtain ⟨t0, l0⟩ := ownList_eq h0
    obtain ⟨a, vs, n, hv, ho, q, hsz⟩ := r.own hx t0
    refine wpAny_Call_method rfl (by rw [hu]; rfl) hline F.plainAttrs_list F.slot_list_append F.type_list_append ?_
    refine wpAny_Name (sim_load (ok.mono (Nat.zero_le _)) hv hn rfl ?_) hd
    refine ⟨⟨_, ho, rfl⟩, fun b eb => ?_, ?_⟩
    · cases eb; exact ⟨_, ho, rfl⟩
    rw [hu]
    refine PySem.P.append_list ?_
    refine (he cx ok fn ρ S s r).shared _ _ ?_
    cases hf : f ρ with
    | stuck => rw [hf] at out; exact out.elim
    | exc C ρ₁ => rw [hf] at out; exact out
    | ok t ρ₁ =>
      rw [hf] at out
      simp only [Res.bind] at out
      intro v h₁ t₁ S₁ r₁ j₁ x₁ v₁
      split at out
      · rename_i ds h1
        obtain ⟨e1, l1⟩ := ownList_eq h1
        obtain ⟨a', vs', n', hv', ho', q', hsz'⟩ := r₁.own hx e1
        cases Var.inj hv' (v₁ rfl x _ hv)
        refine ⟨vs', n', by rw [hsz', sizeLine_eq]; omega, ho', ?_⟩
        obtain ⟨m', hm'⟩ := seq_update (fun xs => xs.push v) ho'
        obtain ⟨r₂, x₂, v₂⟩ := r₁.mutate fn.bh hx e1 hv' (Heap.SameBut.update ..) hm' (ds' := ds ++ [t.val]) (by rw [Array.toList_push]; exact RVs.append (.cons j₁ .nil) q')
        exact out _ _ t₁ S₁ r₂ .none (x₁.trans x₂) fun z => (v₁ z).trans v₂
      · exact out.elim
theorem sim_pop {x : Str} {p apos pos : Pos} {e : Expr} {i : Nat} {f : AEnv → Res Bv} (he : SimB G k sc e f) (hx : (varNames sc)[i]? = some x) (hd : (x == ("__debug__" : Str)) = false) (hn : (x == ("__classdict__" : Str)) = false)
    (hu : ∀ env, backTo pos (starEach [e] env) = [(false, eval e env)]) (hline : (apos.endLine == pos.line) = true) : SimM G k sc (.Call (.Attribute (.Name x p) "pop" apos) [e] [] pos) (ePop i f) := by
  intro cx ok fn ρ S s r Q E out
  unfold ePop at out
  split at out
  · exact out.elim
  · rename_i ds₀ h0
    obtain ⟨t0, l0⟩ := ownList_eq h0
    obtain ⟨a, vs, n, hv, ho, q, hsz⟩ := r.own hx t0
    refine wpAny_Call_method rfl (by rw [hu]; rfl) hline F.plainAttrs_list F.slot_list_pop F.type_list_pop ?_
    refine wpAny_Name (sim_load (ok.mono (Nat.zero_le _)) hv hn rfl ?_) hd
    refine ⟨⟨_, ho, rfl⟩, fun b eb => ?_, ?_⟩
    · cases eb; exact ⟨_, ho, rfl⟩
    rw [hu]
    refine PySem.P.pop_at_list ?_
    refine he cx ok ρ S s r _ _ ?_
    cases hf : f ρ with
    | stuck => rw [hf] at out; exact out.elim
    | exc C ρ₁ => rw [hf] at out; exact out
    | ok t ρ₁ =>
      rw [hf] at out
      simp only [Res.bind] at out
      intro v h₁ t₁ S₁ r₁ j₁ x₁ v₁
      split at out
      · rename_i j ds hj h1
        obtain ⟨u, rfl⟩ := (BVal.rb j₁ r₁ hj).int
        obtain ⟨e1, l1⟩ := ownList_eq h1
        obtain ⟨a', vs', n', hv', ho', q', hsz'⟩ := r₁.own hx e1
        cases Var.inj hv' (v₁ rfl x _ hv)
        split at out
        · rename_i hb
          split at out
          · rename_i d hd
            obtain ⟨y, hy, ry⟩ := q'.get hd
            refine ⟨vs', n', j, u, j.toNat, y, by rw [hsz', sizeLine_eq]; omega, rfl, ho', by unfold Builtin.List.listFitsIndex; simp; omega, seqIndex_pos hb.1 (by omega), by simpa using hy, ?_⟩
            obtain ⟨m', hm'⟩ := seq_update (fun xs => xs.eraseIdxIfInBounds j.toNat) ho'
            have hj' : j.toNat < vs'.size := by omega
            obtain ⟨r₂, x₂, v₂⟩ := r₁.mutate fn.bh hx e1 hv' (Heap.SameBut.update ..) hm' (ds' := ds.eraseIdx j.toNat) (by
              rw [Array.eraseIdxIfInBounds, dif_pos hj', Array.toList_eraseIdx]; exact q'.eraseIdx _)
            exact out _ _ t₁ S₁ r₂ (ry.ext x₂) (x₁.trans x₂) fun z => (v₁ z).trans v₂
          · exact out.elim
        · exact out.elim
      · exact out.elim
theorem simS_ExprM {e : Expr} {pos : Pos} {f : AEnv → Res T} (h : SimM G k sc e f) (hs : ∀ env : Env, swapsWith e none pos.line env = pure false) : SimS G k sc (.Expr e pos) (sExpr (eVal f)) := by
  intro cx ok fn ρ S s r Q E out
  refine wpAny_Expr_any ?_ (by unfold interactive; rw [ok.hsc, ok.hk]; rfl) (hs cx.env)
  refine h cx ok fn ρ S s r _ _ ?_
  unfold sExpr eVal at out
  cases hf : f ρ with
  | stuck => rw [hf] at out; exact out
  | exc C ρ' => rw [hf] at out; exact out
  | ok t ρ' => rw [hf] at out; intro v h' tk S' rel j x vs; exact out .next h' tk S' rel trivial x fun q => by cases q
noncomputable def sSetItem (i : Nat) (f : AEnv → Res Bv) (g : AEnv → Res T) : AEnv → Res Fl := fun ρ => (g ρ).bind fun t ρ₁ => match ownList ρ₁ i with
  | none => .stuck
  | some _ => (f ρ₁).bind fun b ρ₂ => match b.get ρ₂, ownList ρ₂ i with
    | some (.int j), some ds => if 0 ≤ j ∧ j < ds.length then .ok .next (ρ₂.set i (some (.ow true (.list (ds.set j.toNat t.val))))) else .stuck
    | _, _ => .stuck
end
end Mine
end

section
set_option Elab.async false
set_option maxRecDepth 100000
namespace Mine
open PySem PyProof.Rows
theorem entry_unchain : entryFor table "proto.unchain" = some Builtin.«proto.unchain» := entryFor_of_tree (by kernel_rfl)
noncomputable def HOk (A : Around) (h : Heap) : Prop := ∀ v, A.handled = some v → ∃ a o vs, v = .ref a ∧ h.get? a = some o ∧ o.data = .fields vs ∧ vs[2]? = some .none
theorem HOk.keeps {A : Around} {h h' : Heap} (q : HOk A h) (k : ∀ b o vs, h.get? b = some o → o.data = .fields vs → vs[2]? = some .none → ∃ o' vs', h'.get? b = some o' ∧ o'.data = .fields vs' ∧ vs'[2]? = some .none) : HOk A h' := fun v e => by
  obtain ⟨a, o, vs, rfl, h1, h2, h3⟩ := q v e
  obtain ⟨o', vs', k1, k2, k3⟩ := k a o vs h1 h2 h3
  exact ⟨a, o', vs', rfl, k1, k2, k3⟩
theorem Rel.hOk {G : Gd} {cx : Cx} {sc : Scope} {ρ : AEnv} {S : Addr → Prop} {h : Heap} (r : Rel G cx sc ρ S h) : HOk cx.A h := fun v e => by
  obtain ⟨C, q⟩ := r.hok v e
  cases q with
  | exc h1 h2 h3 h4 h5 => exact ⟨_, _, _, rfl, h1, h4, h5⟩
section
variable {prog : Program} {w : World} {A : Around} {E : Value → Shared → Prop} {s : Shared}
theorem wp_stop {α : Type} {Q : α → Shared → Prop} (hh : HOk A s.heap)
    (hE : ∀ h' e, (∀ b o, s.heap.get? b = some o → h'.get? b = some o) → (∃ o, h'.get? e = some o ∧ o.cls = .type "StopIteration") → E (.ref e) { s with heap := h' }) :
    wpAny (model prog w) A (newExc (.type "StopIteration") [] >>= fun e => (raiseNew e : Sem α)) Q E s := by
  refine wpAny_bind ?_
  simp only [newExc, newTuple]
  refine wpAny_bind (wpAny_newObj_type ?_ (by size_fits))
  refine wpAny_bind (m := firstArgMember _ _) (wpAny_of_eq (a := Value.none) (by first | rfl | (simp only [firstArgMember]; rfl)) ?_)
  refine wpAny_newObj_type ?_ (by size_fits)
  simp only [raiseNew]
  refine wpAny_bind (wpAny_handled ?_)
  generalize ho1 : ({ cls := Value.type "tuple", data := Data.seq ([] : List Value).toArray } : Obj) = o1
  generalize ho2 : ({ cls := Value.type "StopIteration", data := _ } : Obj) = o2
  have keep : ∀ b o, s.heap.get? b = some o → ((s.heap.push o1).push o2).get? b = some o := fun b o e => Heap.get?_push_of_some _ (Heap.get?_push_of_some _ e)
  have hnew : ((s.heap.push o1).push o2).get? (s.heap.push o1).objs.size = some o2 := Heap.get?_push_size _ (by subst ho2; rfl)
  have hcls : o2.cls = .type "StopIteration" := by subst ho2; rfl
  cases hA : A.handled with
  | none => exact wpAny_bind (wpAny_pure (wpAny_throw (hE _ _ keep ⟨_, hnew, hcls⟩)))
  | some v =>
    obtain ⟨a, o, vs, rfl, h1, h2, h3⟩ := hh v hA
    have hne : (Value.ref a != Value.ref (s.heap.push o1).objs.size) = true := by
      have := Heap.lt_size h1
      rw [bne_iff_ne]
      intro q
      rw [Value.ref.injEq, Heap.size_push] at q
      exact absurd this (by rw [q]; exact Nat.not_lt.mpr (Nat.le_succ _))
    simp only [hne, if_true]
    have hd2 : ∃ ws, o2.data = .fields ws ∧ 2 < ws.size := by subst ho2; exact ⟨_, rfl, by rw [Array.size_append]; simp; omega⟩
    obtain ⟨ws, hws, hsz⟩ := hd2
    refine wpAny_bind (wpAny_holding (wpAny_runValue (codeAny_builtin entry_unchain ?_)))
    show wpAny _ _ (do
      let context ← field (.ref a) 2
      if context == .none then return ← ret .none
      if context == .ref (s.heap.push o1).objs.size then
        rule "raise.context-cycle-cut"
        setField (.ref a) 2 .none
        return ← ret .none
      if context == .ref a then rule "raise.context-old-cycle"; return ← ret .none
      let slow ← (if false then field (.ref a) 2 else pure (.ref a))
      again (.builtin "proto.unchain" ⟨[.ref (s.heap.push o1).objs.size, context, slow, .bool !false], []⟩)) _ _ _
    refine wpAny_bind (wpAny_field (keep a o h1) h2 h3 ?_)
    rw [if_pos (by rfl)]
    refine wpAny_bind (wpAny_pure (wpAny_pure ?_))
    refine wpAny_bind ?_
    show wpAny _ _ (setField (.ref (s.heap.push o1).objs.size) 2 (.ref a)) _ _ _
    refine wpAny_setField hnew hws hsz (wpAny_throw (hE _ _ (fun b o e => ?_) ⟨_, Heap.get?_update_self _ hnew (Obj.isFreed_of_fields (Obj.data_mapFields hws _)), (Obj.cls_mapFields ..).trans hcls⟩))
    refine (Heap.get?_update_other _ _ ?_).trans (keep b o e)
    have := Heap.lt_size e
    rw [Heap.size_push]
    exact fun q => absurd this (by rw [← q]; exact Nat.not_lt.mpr (Nat.le_succ _))
noncomputable def KB (wr : List Addr) (h h' : Heap) : Prop := (∀ b o, b ∉ wr → h.get? b = some o → h'.get? b = some o) ∧ ∀ b ∈ wr, ∃ o, h'.get? b = some o
theorem listiter_tree_end {it l : Addr} {i : Nat} {o ol : Obj} {items : Array Value} {nl : Nat} {P : Fin → Shared → Prop} (hh : HOk A s.heap) (ho : s.heap.get? it = some o) (hd : o.data = .fields #[.ref l, .int i 0]) (hol : s.heap.get? l = some ol) (hdl : ol.data = .seq items nl) (hx : items[i]? = none) (hni : ∀ v, A.handled = some v → v ≠ .ref it)
    (hE : ∀ h' e, KB [it] s.heap h' → (∃ o, h'.get? e = some o ∧ o.cls = .type "StopIteration") → E (.ref e) { s with heap := h' }) :
    wpAny (model prog w) A (Builtin.«list_iterator.__next__» ⟨[.ref it], []⟩) P E s := by
  show wpAny _ _ (field (.ref it) 0 >>= _) _ _ s
  refine wpAny_bind (wpAny_field ho hd (x := .ref l) rfl ?_)
  show wpAny _ _ (if (Value.ref l == Value.none) = true then _ else _) _ _ s
  rw [if_neg (show ¬ ((Value.ref l == Value.none) = true) from Bool.false_ne_true)]
  show wpAny _ _ (field (.ref it) 1 >>= _) _ _ s
  refine wpAny_bind (wpAny_field ho hd (x := .int i 0) rfl ?_)
  show wpAny _ _ (seqItems? (.ref l) >>= _) _ _ s
  refine wpAny_bind (wpAny_seqItems hol hdl ?_)
  simp only [Int.toNat_natCast, hx]
  refine wpAny_bind (wpAny_rule (wpAny_bind (wpAny_setField ho hd (by simp) ?_)))
  have self := Heap.get?_update_self (Obj.mapFields (·.setIfInBounds 0 Value.none)) ho (Obj.isFreed_of_fields (Obj.data_mapFields hd _))
  have oth : ∀ b o, b ≠ it → s.heap.get? b = some o → (s.heap.update it (Obj.mapFields (·.setIfInBounds 0 Value.none))).get? b = some o := fun b o hb e => (Heap.get?_update_other _ _ (Ne.symm hb)).trans e
  show wpAny _ _ (newExc (.type "StopIteration") [] >>= fun e => raiseNew e) _ _ _
  refine wp_stop (s := { s with heap := s.heap.update it (Obj.mapFields (·.setIfInBounds 0 Value.none)) }) (fun v e => ?_) fun h' e k he => hE h' e ⟨fun b o hb eb => k b o (oth b o (by simpa using hb) eb), fun b hb => by cases List.mem_singleton.mp hb; exact ⟨_, k _ _ self⟩⟩ he
  obtain ⟨a, o', vs, rfl, h1, h2, h3⟩ := hh v e
  exact ⟨a, o', vs, rfl, oth a o' (fun q => hni _ e (by rw [q])) h1, h2, h3⟩
theorem listiter_next_end {it l : Addr} {i : Nat} {o ol : Obj} {items : Array Value} {nl : Nat} {Q : Option Value → Shared → Prop} 
    (hh : HOk A s.heap) (ho : s.heap.get? it = some o) (hc : o.cls = .type "list_iterator") (hd : o.data = .fields #[.ref l, .int i 0]) (hol : s.heap.get? l = some ol) (hdl : ol.data = .seq items nl) (hx : items[i]? = none) (hni : ∀ v, A.handled = some v → v ≠ .ref it)
    (hQ : ∀ h', KB [it] s.heap h' → Q none { s with heap := h' }) : wpAny (model prog w) A (pyNext (.ref it)) Q E s := by
  have hT : s.TypeIs (.ref it) "list_iterator" := ⟨o, ho, hc⟩
  unfold pyNext
  refine wpAny_bind (wpAny_attempt (wpAny_callSpecial?_slot (name := Str.ofString "__next__") hT slot_listiter_next (wpAny_call_entry slot_listiter_next hT entry_listiter_next ?_ (args_listiter_next _))))
  refine listiter_tree_end (A := A.in1) hh ho hd hol hdl hx hni fun h' e k he => ?_
  obtain ⟨oe, he, hce⟩ := he
  refine wpAny_bind (wpAny_isInstance (T := "StopIteration") (b := true) ⟨_, he, hce⟩ isSubtype_stop ?_)
  exact wpAny_pure (hQ _ k)
theorem tupleiter_tree_end {it l : Addr} {i : Nat} {o ol : Obj} {items : Array Value} {nl : Nat} {P : Fin → Shared → Prop} (hh : HOk A s.heap) (ho : s.heap.get? it = some o) (hd : o.data = .fields #[.ref l, .int i 0]) (hol : s.heap.get? l = some ol) (hdl : ol.data = .seq items nl) (hx : items[i]? = none) (hni : ∀ v, A.handled = some v → v ≠ .ref it)
    (hE : ∀ h' e, KB [it] s.heap h' → (∃ o, h'.get? e = some o ∧ o.cls = .type "StopIteration") → E (.ref e) { s with heap := h' }) :
    wpAny (model prog w) A (Builtin.«tuple_iterator.__next__» ⟨[.ref it], []⟩) P E s := by
  show wpAny _ _ (field (.ref it) 0 >>= _) _ _ s
  refine wpAny_bind (wpAny_field ho hd (x := .ref l) rfl ?_)
  show wpAny _ _ (if (Value.ref l == Value.none) = true then _ else _) _ _ s
  rw [if_neg (show ¬ ((Value.ref l == Value.none) = true) from Bool.false_ne_true)]
  show wpAny _ _ (field (.ref it) 1 >>= _) _ _ s
  refine wpAny_bind (wpAny_field ho hd (x := .int i 0) rfl ?_)
  show wpAny _ _ (seqItems? (.ref l) >>= _) _ _ s
  refine wpAny_bind (wpAny_seqItems hol hdl ?_)
  simp only [Int.toNat_natCast, hx]
  refine wpAny_bind (wpAny_rule (wpAny_bind (wpAny_setField ho hd (by simp) ?_)))
  have self := Heap.get?_update_self (Obj.mapFields (·.setIfInBounds 0 Value.none)) ho (Obj.isFreed_of_fields (Obj.data_mapFields hd _))
  have oth : ∀ b o, b ≠ it → s.heap.get? b = some o → (s.heap.update it (Obj.mapFields (·.setIfInBounds 0 Value.none))).get? b = some o := fun b o hb e => (Heap.get?_update_other _ _ (Ne.symm hb)).trans e
  show wpAny _ _ (newExc (.type "StopIteration") [] >>= fun e => raiseNew e) _ _ _
  refine wp_stop (s := { s with heap := s.heap.update it (Obj.mapFields (·.setIfInBounds 0 Value.none)) }) (fun v e => ?_) fun h' e k he => hE h' e ⟨fun b o hb eb => k b o (oth b o (by simpa using hb) eb), fun b hb => by cases List.mem_singleton.mp hb; exact ⟨_, k _ _ self⟩⟩ he
  obtain ⟨a, o', vs, rfl, h1, h2, h3⟩ := hh v e
  exact ⟨a, o', vs, rfl, oth a o' (fun q => hni _ e (by rw [q])) h1, h2, h3⟩
theorem tupleiter_next_end {it l : Addr} {i : Nat} {o ol : Obj} {items : Array Value} {nl : Nat} {Q : Option Value → Shared → Prop} 
    (hh : HOk A s.heap) (ho : s.heap.get? it = some o) (hc : o.cls = .type "tuple_iterator") (hd : o.data = .fields #[.ref l, .int i 0]) (hol : s.heap.get? l = some ol) (hdl : ol.data = .seq items nl) (hx : items[i]? = none) (hni : ∀ v, A.handled = some v → v ≠ .ref it)
    (hQ : ∀ h', KB [it] s.heap h' → Q none { s with heap := h' }) : wpAny (model prog w) A (pyNext (.ref it)) Q E s := by
  have hT : s.TypeIs (.ref it) "tuple_iterator" := ⟨o, ho, hc⟩
  unfold pyNext
  refine wpAny_bind (wpAny_attempt (wpAny_callSpecial?_slot (name := Str.ofString "__next__") hT slot_tupleiter_next (wpAny_call_entry slot_tupleiter_next hT entry_tupleiter_next ?_ (args_tupleiter_next _))))
  refine tupleiter_tree_end (A := A.in1) hh ho hd hol hdl hx hni fun h' e k he => ?_
  obtain ⟨oe, he, hce⟩ := he
  refine wpAny_bind (wpAny_isInstance (T := "StopIteration") (b := true) ⟨_, he, hce⟩ isSubtype_stop ?_)
  exact wpAny_pure (hQ _ k)
theorem next_range_end {it : Addr} {x left step : Int} {Q : Option Value → Shared → Prop} (hh : HOk A s.heap) (hit : IsRangeIter s.heap it x left step) (hleft : left ≤ 0)
    (hQ : ∀ h', KB [it] s.heap h' → Q none { s with heap := h' }) : wpAny (model prog w) A (pyNext (.ref it)) Q E s := by
  have hT : s.TypeIs (.ref it) "range_iterator" := ⟨_, hit, rfl⟩
  unfold pyNext
  refine wpAny_bind (wpAny_attempt (wpAny_callSpecial?_slot (name := Str.ofString "__next__") hT F.slot_range_iterator_next
    (wpAny_call_entry F.slot_range_iterator_next hT F.entry_range_iterator_next ?_ (F.args_range_iterator_next_1 _))))
  show wpAny _ _ (field (.ref it) 0 >>= _) _ _ s
  refine wpAny_bind (wpAny_field hit rfl (x := rawInt x) rfl ?_)
  show wpAny _ _ (field (.ref it) 1 >>= _) _ _ s
  refine wpAny_bind (wpAny_field hit rfl (x := rawInt left) rfl ?_)
  show wpAny _ _ (field (.ref it) 2 >>= _) _ _ s
  refine wpAny_bind (wpAny_field hit rfl (x := rawInt step) rfl ?_)
  show wpAny _ _ (if left ≤ 0 then _ else _) _ _ s
  rw [if_pos hleft]
  refine wpAny_bind (wpAny_rule ?_)
  refine wpAny_bind ?_
  show wpAny _ _ (newExc (.type "StopIteration") [] >>= fun e => raiseNew e) _ _ _
  refine wp_stop (A := A.in1) hh fun h' e k he => ?_
  obtain ⟨oe, he, hce⟩ := he
  refine wpAny_bind (wpAny_isInstance (T := "StopIteration") (b := true) ⟨_, he, hce⟩ isSubtype_stop ?_)
  exact wpAny_pure (hQ _ ⟨fun b o _ e => k b o e, fun b hb => by cases List.mem_singleton.mp hb; exact ⟨_, k _ _ hit⟩⟩)
end
noncomputable def Iterish (o : Obj) : Prop := ∃ T vs, o.cls = .type T ∧ T ≠ "tuple" ∧ T ≠ "list" ∧ T ≠ "range" ∧ o.data = .fields vs
section
variable {G : Gd} {cx : Cx} {sc : Scope} {ρ : AEnv} {S : Addr → Prop} {h h' : Heap} {wr : List Addr}
theorem KB.carry (sh : ∀ b ∈ wr, ∃ o, h.get? b = some o ∧ Iterish o) (k : KB wr h h') : Carry S h S h' where
  tup := fun e hc hd => k.1 _ _ (fun m => by obtain ⟨o, e', T, vs, h1, h2, h3, h4, h5⟩ := sh _ m; rw [e] at e'; cases e'; rw [hc] at h1; cases h1; exact h2 rfl) e
  list := fun hs e hc hd => ⟨hs, k.1 _ _ (fun m => by obtain ⟨o, e', T, vs, h1, h2, h3, h4, h5⟩ := sh _ m; rw [e] at e'; cases e'; rw [hc] at h1; cases h1; exact h3 rfl) e⟩
  range := fun e => k.1 _ _ (fun m => by obtain ⟨o, e', T, vs, h1, h2, h3, h4, h5⟩ := sh _ m; unfold IsRange at e; rw [e] at e'; cases e'; cases h1; exact h4 rfl) e
  exc := fun e hc hn hd r => .exc (k.1 _ _ (fun m => by obtain ⟨o, e', T, vs, h1, h2, h3, h4, h5⟩ := sh _ m; rw [e] at e'; cases e'; rw [hc] at h1; cases h1) e) hc hn hd r
  dom := fun a o e' => by
    by_cases hb : a ∈ wr
    · exact k.2 a hb
    · exact ⟨o, k.1 a o hb e'⟩
theorem RV.aside (sh : ∀ b ∈ wr, ∃ o, h.get? b = some o ∧ Iterish o) (k : KB wr h h') {v : Value} {d : D} (q : RV S h v d) : RV S h' v d := q.map (k.carry sh)
theorem RVs.aside (sh : ∀ b ∈ wr, ∃ o, h.get? b = some o ∧ Iterish o) (k : KB wr h h') {vs : List Value} {ds : List D} (q : RVs S h vs ds) : RVs S h' vs ds := q.map (k.carry sh)
theorem KB.dom (k : KB wr h h') {b : Addr} {o : Obj} (e : h.get? b = some o) : ∃ o', h'.get? b = some o' := by
  by_cases hb : b ∈ wr
  · exact k.2 b hb
  · exact ⟨o, k.1 b o hb e⟩
theorem Rel.aside (r : Rel G cx sc ρ S h) (sh : ∀ b ∈ wr, ∃ o, h.get? b = some o ∧ Iterish o) (new : ∀ b ∈ wr, cx.h₀.get? b = none ∧ G.B.get? b = none) (k : KB wr h h') : Rel G cx sc ρ S h' ∧ VarSame cx.env h h' := by
  have nw : ∀ (a : Addr) (o : Obj), h.get? a = some o → (∀ vs, o.data ≠ .fields vs) → a ∉ wr := fun a o e hd m => by
    obtain ⟨o', e', T, vs, _, _, _, _, q⟩ := sh a m
    rw [e] at e'; cases e'; exact hd vs q
  have nsame : ∀ m, h.Ns cx.env.locals m → h'.Ns cx.env.locals m := fun m n => by
    obtain ⟨o, es, ep, ho, hd, q⟩ := n
    exact ⟨o, es, ep, k.1 _ _ (nw _ _ ho (by rw [hd]; intro vs q; cases q)) ho, hd, q⟩
  have csame : ∀ c w, h.IsCell c w → h'.IsCell c w := fun c w n => by
    obtain ⟨o, ho, hd⟩ := n
    exact ⟨o, k.1 _ _ (nw _ _ ho (by rw [hd]; intro vs q; cases q)) ho, hd⟩
  have hb : VarSame cx.env h h' := fun y w q => by
    rcases q with ⟨a, m₁, b, c⟩ | ⟨a, c, b, d⟩
    · exact .inl ⟨a, m₁, nsame m₁ b, c⟩
    · exact .inr ⟨a, c, b, csame c _ d⟩
  have hf : ∀ y w, Var cx.env h' y w → Var cx.env h y w := fun y w q => by
    rcases q with ⟨a, m₁, b, c⟩ | ⟨a, c, b, d⟩
    · obtain ⟨m₀, n₀⟩ := r.ns
      exact .inl ⟨a, m₀, n₀, by rw [(nsame m₀ n₀).agree b y]; exact c⟩
    · obtain ⟨w₀, n₀⟩ := r.cells y c b
      exact .inr ⟨a, c, b, by rw [IsCell.inj d (csame c _ n₀)]; exact n₀⟩
  refine ⟨⟨fun b o q => k.1 b o (fun m => by rw [(new b m).2] at q; cases q) (r.base b o q), fun b o q => ?_, fun env he => ?_, let ⟨m, n⟩ := r.ns; ⟨m, nsame m n⟩, fun y c q => let ⟨w, n⟩ := r.cells y c q; ⟨w, csame c w n⟩, fun b q => let ⟨o, eo⟩ := r.sdom b q; k.dom eo, r.sok, r.sloc, r.scell, fun y b hdy q => let ⟨o, eo⟩ := r.live y b hdy (hf y _ q); k.dom eo, r.clean, fun v q => let ⟨C, e⟩ := r.hok v q; ⟨C, e.aside sh k⟩, fun j y u hy hu => ?_, fun j l y z m m' d d' u hy hz hj hl a b => r.inj j l y z m m' d d' u hy hz hj hl (hf y _ a) (hf z _ b)⟩, hb⟩
  · obtain ⟨sl, q₁, k₁⟩ := r.keep b o q
    exact ⟨sl, k.1 b _ (fun m => by rw [(new b m).1] at q; cases q) q₁, k₁⟩
  · obtain ⟨p, L, o, b, c, d, es, n, q⟩ := r.ff env he
    exact ⟨p, L, o, b, c, k.1 L o (nw _ _ d (by rw [q]; intro vs q; cases q)) d, es, n, q⟩
  · obtain ⟨w, hw', tw⟩ := r.vars j y u hy hu
    refine ⟨w, hb y w hw', ?_⟩
    cases u with
    | sh d => exact RV.aside sh k tw
    | ow m d =>
      obtain ⟨b, rfl, n1, ow, n2⟩ := tw
      refine ⟨b, rfl, n1, ?_, n2⟩
      unfold OwnAt at ow ⊢
      split at ow
      · obtain ⟨vs, n, e, q⟩ := ow
        exact ⟨vs, n, k.1 b _ (nw _ _ e (by intro vs q; cases q)) e, RVs.aside sh k q⟩
      · exact ow
theorem Ext.aside {S₀ : Addr → Prop} {h₀ : Heap} (x : Ext S₀ h₀ S h) (new : ∀ b ∈ wr, h₀.get? b = Option.none) (k : KB wr h h') : Ext S₀ h₀ S h' :=
  ⟨x.sub, fun b o e q => by
    obtain ⟨sl, e₁, k₁⟩ := x.keep b o e q
    exact ⟨sl, k.1 b _ (fun m => by rw [new b m] at e; cases e) e₁, k₁⟩, fun b o e => by
    obtain ⟨o', e'⟩ := x.dom b o e
    exact k.dom e'⟩
end
structure ItK (G : Gd) (A : Around) (tg : Expr) (I : Addr) (wr : List Addr) (St : Nat → (Addr → Prop) → Heap → Prop) (ds : List D) : Prop where
  shape : ∀ i S h, St i S h → ∀ b ∈ wr, ∃ o, h.get? b = some o ∧ Iterish o
  ext : ∀ i S h S' h', St i S h → Ext S h S' h' → St i S' h'
  item : ∀ i S (s : Shared) d (Q : Value → Shared → Prop) (E E' : Value → Shared → Prop), ds[i]? = some d → St i S s.heap →
    (∀ v h' tk, RV S h' v d → St (i + 1) S h' → KB wr s.heap h' → Q v { s with heap := h', toks := tk }) →
    wpAny G.M A (pyNext (.ref I)) (fun r s₁ => ∃ v, r = some v ∧ wpAny G.M A (letOwnedTupleGo tg (.ref I) v) (fun _ s₂ => Q v s₂) E' s₁) E s
  done : ∀ S (s : Shared) (Q : Option Value → Shared → Prop) (E : Value → Shared → Prop), St ds.length S s.heap → HOk A s.heap → (∀ v, A.handled = some v → ∀ b ∈ wr, v ≠ .ref b) →
    (∀ h' tk, KB wr s.heap h' → Q none { s with heap := h', toks := tk }) → wpAny G.M A (pyNext (.ref I)) Q E s
  self : ∀ i S (s : Shared) (Q : Value → Shared → Prop) (E : Value → Shared → Prop), St i S s.heap → Q (.ref I) s → wpAny G.M A (pyIter (.ref I)) Q E s
noncomputable def OutI (G : Gd) (cx : Cx) (sc : Scope) (tg : Expr) (S : Addr → Prop) (s : Shared) (Q : Value → Shared → Prop) (E : Value → Shared → Prop) : Res (List D) → Prop
  | .ok ds ρ' => ∀ (I : Addr) (wr : List Addr) (St : Nat → (Addr → Prop) → Heap → Prop) (S' : Addr → Prop) (h' : Heap) (tk : Nat), Rel G cx sc ρ' S' h' → ItK G cx.A tg I wr St ds → St 0 S' h' → (∀ b ∈ wr, s.heap.get? b = none) → Ext S s.heap S' h' → VarSame cx.env s.heap h' → Q (.ref I) { s with heap := h', toks := tk }
  | .exc C ρ' => ∀ e h' tk S', Rel G cx sc ρ' S' h' → Fly s.heap h' e C → Ext S s.heap S' h' → E (.ref e) { s with heap := h', toks := tk }
  | .stuck => False
noncomputable def SimI (G : Gd) (k : Nat) (sc : Scope) (tg e : Expr) (f : AEnv → Res (List D)) : Prop :=
  ∀ cx, CxOk G cx sc k → ∀ ρ S s, Rel G cx sc ρ S s.heap → ∀ Q E, OutI G cx sc tg S s Q E (f ρ) → wpAny G.M cx.A (eval e cx.env) (fun xv s₁ => wpAny G.M cx.A (pyIter xv) Q E s₁) E s
theorem KB.of_sameBut {a : Addr} {h h' : Heap} (k : Heap.SameBut a h h') (e : ∃ o, h'.get? a = some o) : KB [a] h h' := ⟨fun b o hb eb => (k.2 b (by simpa using hb)).trans eb, fun b hb => by rw [List.mem_singleton.mp hb]; exact e⟩
theorem owned_none {prog : Program} {w : World} {A : Around} {E : Value → Shared → Prop} {s : Shared} {tg : Expr} {I : Addr} {o : Obj} {T : String} {vs : Array Value} {v : Value} {Q : Unit → Shared → Prop} (ho : s.heap.get? I = some o) (hc : o.cls = .type T) (hd : o.data = .fields vs)
    (hT : ["enumerate", "zip", "dict_itemiterator", "dict_reverseitemiterator", "odict_iterator", "itertools.zip_longest", "itertools.pairwise"].contains T = false) (h : Q () s) : wpAny (model prog w) A (letOwnedTupleGo tg (.ref I) v) Q E s := by
  unfold letOwnedTupleGo
  split
  · split
    · rename_i r a q
      cases q
      refine wpAny_bind (wpAny_load ho ?_)
      rw [hc, hd]
      simp only
      rw [hT]
      simp only [Bool.false_and, Bool.false_eq_true, if_false]
      exact wpAny_pure h
    · exact wpAny_pure h
  · split
    · rename_i r a q
      cases q
      refine wpAny_bind (wpAny_load ho ?_)
      rw [hc, hd]
      simp only
      rw [hT]
      simp only [Bool.false_and, Bool.false_eq_true, if_false]
      exact wpAny_pure h
    · exact wpAny_pure h
  · exact wpAny_pure h
section
variable {G : Gd} {A : Around} {tg : Expr}
noncomputable def SeqSt (T : String) (It : String) (I l : Addr) (ds : List D) (i : Nat) (S : Addr → Prop) (h : Heap) : Prop :=
  (∃ o, h.get? I = some o ∧ o.cls = .type It ∧ o.data = .fields #[.ref l, .int i 0]) ∧ ∃ o vs n, h.get? l = some o ∧ o.cls = .type T ∧ o.data = .seq vs n ∧ RVs S h vs.toList ds ∧ (T = "list" → S l)
theorem SeqSt.ext {T It : String} {I l : Addr} {ds : List D} (hT : T = "list" ∨ T = "tuple") : ∀ i S h S' h', SeqSt T It I l ds i S h → Ext S h S' h' → SeqSt T It I l ds i S' h' := by
  rintro i S h S' h' ⟨⟨o, a1, a2, a3⟩, ol, vs, n, b1, b2, b3, b4, b5⟩ x
  refine ⟨⟨o, x.exact a1 (.inr (.inr ⟨_, a3⟩)) (.fields a3), a2, a3⟩, ol, vs, n, x.exact b1 ?_ (.seq b3), b2, b3, b4.ext x, fun q => x.sub _ (b5 q)⟩
  rcases hT with rfl | rfl
  · exact .inl (b5 rfl)
  · exact .inr (.inl ⟨b2, _, _, b3⟩)
theorem itK_list {I l : Addr} (hne : l ≠ I) (ds : List D) : ItK G A tg I [I] (SeqSt "list" "list_iterator" I l ds) ds where
  shape := fun i S h st b hb => by
    obtain ⟨⟨o, a1, a2, a3⟩, _⟩ := st
    exact ⟨o, by rw [List.mem_singleton.mp hb]; exact a1, _, _, a2, by decide, by decide, by decide, a3⟩
  ext := SeqSt.ext (.inl rfl)
  item := fun i S s d Q E E' hd st hQ => by
    obtain ⟨⟨o, a1, a2, a3⟩, ol, vs, n, b1, b2, b3, b4, b5⟩ := st
    obtain ⟨v, hv, rv⟩ := b4.get hd
    refine wpAny_pyNext_list_item ⟨o, a1, a2, a3⟩ ⟨ol, b1, b2, n, b3⟩ (by simpa using hv) fun h' it' k' => ⟨v, rfl, ?_⟩
    have it0 := it'
    obtain ⟨o', c1, c2, c3⟩ := it0
    have kb := KB.of_sameBut k' ⟨o', c1⟩
    have sh : ∀ b ∈ [I], ∃ o, s.heap.get? b = some o ∧ Iterish o := fun b hb => ⟨o, by rw [List.mem_singleton.mp hb]; exact a1, _, _, a2, by decide, by decide, by decide, a3⟩
    exact owned_none (s := { s with heap := h' }) c1 c2 c3 (by decide) (hQ v h' s.toks (rv.aside sh kb) ⟨⟨o', c1, c2, c3⟩, ol, vs, n, (k'.2 l hne).trans b1, b2, b3, b4.aside sh kb, b5⟩ kb)
  done := fun S s Q E st hh hni hQ => by
    obtain ⟨⟨o, a1, a2, a3⟩, ol, vs, n, b1, b2, b3, b4, b5⟩ := st
    exact listiter_next_end hh a1 a2 a3 b1 b3 (by have := b4.length; simp at this; simp [this]) (fun v e => hni v e I (.head _)) fun h' k => hQ h' s.toks k
  self := fun i S s Q E st hQ => by
    obtain ⟨⟨o, a1, a2, a3⟩, _⟩ := st
    exact wpAny_pyIter_listiter ⟨o, a1, a2, a3⟩ hQ
theorem itK_tuple {I l : Addr} (hne : l ≠ I) (ds : List D) : ItK G A tg I [I] (SeqSt "tuple" "tuple_iterator" I l ds) ds where
  shape := fun i S h st b hb => by
    obtain ⟨⟨o, a1, a2, a3⟩, _⟩ := st
    exact ⟨o, by rw [List.mem_singleton.mp hb]; exact a1, _, _, a2, by decide, by decide, by decide, a3⟩
  ext := SeqSt.ext (.inr rfl)
  item := fun i S s d Q E E' hd st hQ => by
    obtain ⟨⟨o, a1, a2, a3⟩, ol, vs, n, b1, b2, b3, b4, b5⟩ := st
    obtain ⟨v, hv, rv⟩ := b4.get hd
    refine next_tuple_item ⟨o, a1, a2, a3⟩ ⟨ol, b1, b2, n, b3⟩ (by simpa using hv) fun h' it' k' => ⟨v, rfl, ?_⟩
    have it0 := it'
    obtain ⟨o', c1, c2, c3⟩ := it0
    have kb := KB.of_sameBut k' ⟨o', c1⟩
    have sh : ∀ b ∈ [I], ∃ o, s.heap.get? b = some o ∧ Iterish o := fun b hb => ⟨o, by rw [List.mem_singleton.mp hb]; exact a1, _, _, a2, by decide, by decide, by decide, a3⟩
    exact owned_none (s := { s with heap := h' }) c1 c2 c3 (by decide) (hQ v h' s.toks (rv.aside sh kb) ⟨⟨o', c1, c2, c3⟩, ol, vs, n, (k'.2 l hne).trans b1, b2, b3, b4.aside sh kb, b5⟩ kb)
  done := fun S s Q E st hh hni hQ => by
    obtain ⟨⟨o, a1, a2, a3⟩, ol, vs, n, b1, b2, b3, b4, b5⟩ := st
    exact tupleiter_next_end hh a1 a2 a3 b1 b3 (by have := b4.length; simp at this; simp [this]) (fun v e => hni v e I (.head _)) fun h' k => hQ h' s.toks k
  self := fun i S s Q E st hQ => by
    obtain ⟨⟨o, a1, a2, a3⟩, _⟩ := st
    exact wpAny_pyIter_tupleiter ⟨o, a1, a2, a3⟩ hQ
noncomputable def RangeSt (I : Addr) (lo st : Int) (n : Nat) (i : Nat) (_ : Addr → Prop) (h : Heap) : Prop := IsRangeIter h I (lo + i * st) ((n : Int) - i) st
theorem itK_range {I : Addr} (lo st : Int) (n : Nat) : ItK G A tg I [I] (RangeSt I lo st n) ((List.range n).map fun (i : Nat) => D.int (lo + i * st)) where
  shape := fun i S h q b hb => by cases List.mem_singleton.mp hb; exact ⟨_, q, _, _, rfl, by decide, by decide, by decide, rfl⟩
  ext := fun i S h S' h' q x => x.exact q (.inr (.inr ⟨_, rfl⟩)) (.fields rfl)
  item := fun i S s d Q E E' hd q hQ => by
    have hi : i < n := by
      have := (List.getElem?_eq_some_iff.mp hd).1
      simpa using this
    have hdd : d = .int (lo + i * st) := by simp [hi] at hd; exact hd.symm
    subst hdd
    refine wpAny_pyNext_range_item q (by omega) fun h' it' k' => ⟨_, rfl, ?_⟩
    have q' : RangeSt I lo st n (i + 1) S h' := by
      unfold RangeSt
      have e1 : lo + (i : Int) * st + st = lo + ((i + 1 : Nat) : Int) * st := by rw [Int.natCast_add, Int.add_mul]; simp; omega
      have e2 : (n : Int) - i - 1 = (n : Int) - ((i + 1 : Nat) : Int) := by omega
      rw [← e1, ← e2]; exact it'
    exact owned_none (s := { s with heap := h', toks := s.toks + 1 }) it' rfl rfl (by decide) (hQ _ h' _ (.int _ _) q' (KB.of_sameBut k' ⟨_, it'⟩))
  done := fun S s Q E q hh hni hQ => by
    have q : IsRangeIter s.heap I _ _ _ := q
    exact next_range_end hh q (by simp) fun h' k => hQ h' s.toks k
  self := fun i S s Q E q hQ => wpAny_pyIter_rangeiter q hQ
end
noncomputable def itemsD : D → Option (List D)
  | .list ds => some ds
  | .tup ds => some ds
  | .range lo hi st => if rangeFit lo hi st then some (rangeL lo hi st) else none
  | _ => none
noncomputable def eItems (f : AEnv → Res T) : AEnv → Res (List D) := fun ρ => (f ρ).bind fun t ρ₁ => match itemsD t.val with
  | some ds => .ok ds ρ₁
  | none => .stuck
theorem simI_of {G : Gd} {k : Nat} {sc : Scope} {tg e : Expr} {f : AEnv → Res T} (h : Sim G k sc e f) : SimI G k sc tg e (eItems f) := by
  intro cx ok ρ S s r Q E out
  refine (h cx ok ρ S s r).shared _ _ ?_
  unfold eItems at out
  cases hf : f ρ with
  | stuck => rw [hf] at out; exact out.elim
  | exc C ρ₁ => rw [hf] at out; exact out
  | ok t ρ₁ =>
    rw [hf] at out
    simp only [Res.bind] at out ⊢
    intro v h₁ t₁ S₁ r₁ j₁ x₁ v₁
    have nw : ∀ b ∈ [h₁.objs.size], s.heap.get? b = none := fun b hb => by
      rw [List.mem_singleton.mp hb]
      exact x₁.none (Heap.get?_none_of_le (Nat.le_refl _))
    cases hd : itemsD t.val with
    | none => rw [hd] at out; exact out.elim
    | some ds =>
      rw [hd] at out
      simp only at out
      unfold itemsD at hd
      split at hd
      · rename_i ds' e
        cases hd
        rw [e] at j₁
        cases j₁ with
        | list hs e1 e2 e3 q =>
          rename_i a o vs n
          refine wpAny_pyIter_list (s := { s with heap := h₁, toks := t₁ }) ⟨o, e1, e2, n, e3⟩ ?_
          have hne : a ≠ h₁.objs.size := fun e => by rw [e, Heap.get?_none_of_le (Nat.le_refl _)] at e1; cases e1
          exact out _ [h₁.objs.size] _ S₁ _ t₁ (Rel.push (s := { s with heap := h₁ }) r₁ _) (itK_list hne ds) ⟨⟨_, Heap.get?_push_size _ rfl, rfl, rfl⟩, o, vs, n, Heap.get?_push_of_some _ e1, e2, e3, q.ext (ext_push _), fun _ => hs⟩ nw (x₁.trans (ext_push _)) ((v₁ rfl).trans (r₁.same (kp_push _)))
      · rename_i ds' e
        cases hd
        rw [e] at j₁
        cases j₁ with
        | tup e1 e2 e3 q =>
          rename_i a o vs n
          refine iter_tuple (s := { s with heap := h₁, toks := t₁ }) ⟨o, e1, e2, n, e3⟩ ?_
          have hne : a ≠ h₁.objs.size := fun e => by rw [e, Heap.get?_none_of_le (Nat.le_refl _)] at e1; cases e1
          exact out _ [h₁.objs.size] _ S₁ _ t₁ (Rel.push (s := { s with heap := h₁ }) r₁ _) (itK_tuple hne ds) ⟨⟨_, Heap.get?_push_size _ rfl, rfl, rfl⟩, o, vs, n, Heap.get?_push_of_some _ e1, e2, e3, q.ext (ext_push _), fun q => absurd q (by decide)⟩ nw (x₁.trans (ext_push _)) ((v₁ rfl).trans (r₁.same (kp_push _)))
      · rename_i lo hi st e
        rw [e] at j₁
        split at hd
        · rename_i hf
          cases hd
          obtain ⟨f1, f2, f3⟩ := rangeFit_n hf
          cases j₁ with
          | range hr =>
            refine wpAny_pyIter_range (s := { s with heap := h₁, toks := t₁ }) hr f1 ?_
            refine out _ [h₁.objs.size] _ S₁ _ t₁ (Rel.push (s := { s with heap := h₁ }) r₁ _) (itK_range lo st (rangeN lo hi st)) ?_ nw (x₁.trans (ext_push _)) ((v₁ rfl).trans (r₁.same (kp_push _)))
            show IsRangeIter _ _ _ _ _
            rw [f2]
            simpa using Heap.get?_push_size _ rfl
        · cases hd
      · cases hd
end Mine
end

section
set_option Elab.async false
set_option maxRecDepth 100000
namespace Mine
open PySem PyProof.Rows
noncomputable def OwnName (cx : Cx) (sc : Scope) (x : Str) : Prop := sc.names.lookup x = some .local ∨ (sc.names.lookup x = some .cell ∧ ∃ c, cx.env.cells.lookup x = some c ∧ cx.h₀.get? c = none)
noncomputable def SimA (G : Gd) (sc : Scope) (tg : Expr) (xs : List Str) (b : D → AEnv → Option AEnv) : Prop :=
  ∀ cx k, CxOk G cx sc k → FnCx G cx → (∀ x ∈ xs, OwnName cx sc x) → ∀ ρ S s v d ρ', Rel G cx sc ρ S s.heap → RV S s.heap v d → b d ρ = some ρ' → Does G cx sc false (assign tg cx.env v) S s (fun _ _ _ (_ : Unit) => True) (.ok () ρ')
noncomputable def bName (i : Nat) : D → AEnv → Option AEnv := fun d ρ => some (ρ.set i (some (.sh d)))
theorem simA_name {G : Gd} {sc : Scope} {x : Str} {p : Pos} {i : Nat} (hx : (varNames sc)[i]? = some x) : SimA G sc (.Name x p) [x] (bName i) := by
  intro cx k ok fn hn ρ S s v d ρ' r q e
  cases e
  rw [PySem.assign_Name]
  exact Does.standAt ((does_store (ok.mono (Nat.zero_le _)) fn r hx (hn x (.head _)) (.inr ⟨d, rfl⟩) (t := .sh d) q).wp fun Q E h => wpAny_bindName h)
noncomputable def bNames : List Nat → List D → AEnv → Option AEnv
  | [], [], ρ => some ρ
  | i :: is, d :: ds, ρ => bNames is ds (ρ.set i (some (.sh d)))
  | _, _, _ => none
noncomputable def bTuple (is : List Nat) : D → AEnv → Option AEnv
  | .tup ds, ρ => if ds.length = is.length then bNames is ds ρ else none
  | _, _ => none
inductive Names (sc : Scope) : List Expr → List Str → List Nat → Prop
  | nil : Names sc [] [] []
  | cons {x : Str} {p : Pos} {i : Nat} {es : List Expr} {xs : List Str} {is : List Nat} : (varNames sc)[i]? = some x → Names sc es xs is → Names sc (.Name x p :: es) (x :: xs) (i :: is)
theorem Names.each {sc : Scope} {es : List Expr} {xs : List Str} {is : List Nat} (h : Names sc es xs is) (env : Env) : (assignEach es env).length = is.length ∧ (assignEach es env).findIdx? (·.1) = none := by
  induction h with
  | nil => exact ⟨rfl, rfl⟩
  | cons _ _ ih =>
    obtain ⟨l, f⟩ := ih
    refine ⟨congrArg (· + 1) l, ?_⟩
    show List.findIdx? (·.1) ((false, _) :: assignEach _ env) = none
    rw [List.findIdx?_cons, f]; rfl
theorem does_inOrder {G : Gd} {sc : Scope} {cx : Cx} {k : Nat} (ok : CxOk G cx sc k) (fn : FnCx G cx) {es : List Expr} {xs : List Str} {is : List Nat} (h : Names sc es xs is) : (∀ x ∈ xs, OwnName cx sc x) → ∀ {vs : List Value} {ds : List D} {ρ ρ' : AEnv} {S : Addr → Prop} {s : Shared}, Rel G cx sc ρ S s.heap → RVs S s.heap vs ds → bNames is ds ρ = some ρ' →
    Does G cx sc false (assignInOrder ((assignEach es cx.env).map (·.2)) vs) S s (fun _ _ _ (_ : Unit) => True) (.ok () ρ') := by
  induction h with
  | nil =>
    intro _ vs ds ρ ρ' S s r q e
    cases q with
    | nil => cases e; exact Does.pure r trivial
    | cons _ _ => cases e
  | cons hx _ ih =>
    intro hn vs ds ρ ρ' S s r q e
    cases q with
    | nil => cases e
    | cons q1 q2 =>
      intro Q E out
      refine assignInOrder_cons (simA_name hx cx k ok fn (fun y hy => by rw [List.mem_singleton.mp hy]; exact hn _ (.head _)) ρ S s _ _ _ r q1 rfl _ _ ?_)
      intro _ h₁ t₁ S₁ r₁ _ x₁ _
      refine ih (fun y hy => hn y (.tail _ hy)) (s := { s with heap := h₁, toks := t₁ }) r₁ (q2.ext x₁) e _ _ ?_
      intro _ h₂ t₂ S₂ r₂ _ x₂ _
      exact out () h₂ t₂ S₂ r₂ trivial (x₁.trans x₂) fun z => by cases z
section
variable {prog : Program} {w : World} {A : Around} {E : Value → Shared → Prop} {s : Shared}
theorem unpackItems_any {t : Addr} {items : Array Value} {Q : List Value → Shared → Prop} (hh : HOk A s.heap) (ht : IsTup s.heap t items)
    (hQ : ∀ h', (∀ b o, s.heap.get? b = some o → h'.get? b = some o) → Q items.toList { s with heap := h' }) : wpAny (model prog w) A (unpackItems (.ref t) items.size none) Q E s := by
  have hlt : t ≠ s.heap.objs.size := by obtain ⟨o, ho, _⟩ := ht; exact Nat.ne_of_lt (Heap.lt_size ho)
  unfold unpackItems
  refine wpAny_bind ?_
  · unfold notIterableAtAll
    refine wpAny_bind (wpAny_specialOf ht.typeIs slot_tuple_iter.lookup ?_)
    refine wpAny_pure ?_
    simp only [Bool.false_eq_true, if_false]
    refine wpAny_bind (wpAny_holding (iter_tuple ht ?_))
    refine wpAny_bind (wpAny_holding (draw_tuple hlt items.size 0 _ _ ⟨_, Heap.get?_push_size _ rfl, rfl, rfl⟩ (ht.push _) (by omega) fun h₁ hit₁ hs₁ => ?_))
    have hall : List.take items.size (List.drop 0 items.toList) = items.toList := by
      rw [List.drop_zero]; exact List.take_of_length_le (by simp)
    rw [hall]
    rw [if_neg (by simp)]
    have ht₁ : IsTup h₁ t items := (ht.push _).extBut hs₁.extBut hlt
    obtain ⟨oi, i1, i2, i3⟩ := hit₁
    obtain ⟨ot, t1, t2, nt, t3⟩ := ht₁
    have keep : ∀ b o, s.heap.get? b = some o → h₁.get? b = some o := fun b o e => hs₁.extBut b o (Nat.ne_of_lt (Heap.lt_size e)) (Heap.get?_push_of_some _ e)
    refine wpAny_bind (wpAny_holding (tupleiter_next_end (s := { s with heap := h₁ }) (hh.keeps fun b o vs e hd h2 => ⟨o, vs, keep b o e, hd, h2⟩) i1 i2 i3 t1 t3 (by simp) (fun v hv => ?_) fun h₂ k₂ => ?_))
    · obtain ⟨a, o, vs, rfl, h1, _⟩ := hh v hv
      intro q
      cases q
      exact absurd (Heap.lt_size h1) (Nat.lt_irrefl _)
    simp only [Option.isSome_none, Bool.false_eq_true, if_false]
    refine wpAny_pure (hQ h₂ fun b o e => k₂.1 b o (by simp; exact Nat.ne_of_lt (Heap.lt_size e)) (keep b o e))
end
theorem simA_tuple {G : Gd} {sc : Scope} {es : List Expr} {xs : List Str} {is : List Nat} {n : Nat} {p : Pos} (h : Names sc es xs is) : SimA G sc (.Tuple es n p) xs (bTuple is) := by
  intro cx k ok fn hn ρ S s v d ρ' r q e
  unfold bTuple at e
  split at e
  · rename_i ds
    split at e
    · rename_i hl
      cases q with
      | tup e1 e2 e3 q =>
        rename_i a o vs m
        rw [assign_Tuple]
        refine Does.standAt ?_
        intro Q E out
        unfold unpack
        obtain ⟨l, f⟩ := h.each cx.env
        have hsz : vs.size = ds.length := by rw [← q.length]; simp
        rw [l, f, ← hl, ← hsz]
        refine wpAny_bind (wpAny_holding (unpackItems_any r.hOk ⟨o, e1, e2, m, e3⟩ fun h' hk => ?_))
        obtain ⟨r', x', v'⟩ := r.keepsE hk
        refine does_inOrder ok fn h hn (s := { s with heap := h' }) r' (q.ext x') e _ _ ?_
        intro _ h₂ t₂ S₂ r₂ _ x₂ _
        exact out () h₂ t₂ S₂ r₂ trivial (x'.trans x₂) fun z => by cases z
    · cases e
  · cases e
noncomputable def forN (b : D → AEnv → Option AEnv) (body : AEnv → Res Fl) : List D → AEnv → Res Fl
  | [], ρ => .ok .next ρ
  | d :: ds, ρ => match b d ρ with
    | none => .stuck
    | some ρ₁ => (body ρ₁).bind fun fl ρ₂ => match fl with
      | .next => forN b body ds ρ₂
      | .cont => forN b body ds ρ₂
      | .brk => .ok .next ρ₂
      | .ret t => .ok (.ret t) ρ₂
noncomputable def sFor (src : AEnv → Res (List D)) (b : D → AEnv → Option AEnv) (body : AEnv → Res Fl) : AEnv → Res Fl := fun ρ => (src ρ).bind fun ds ρ₁ => forN b body ds ρ₁
theorem drop_cons_of {α : Type} {l : List α} {i : Nat} {d : α} (h : l[i]? = some d) : l.drop i = d :: l.drop (i + 1) := by
  obtain ⟨h1, rfl⟩ := List.getElem?_eq_some_iff.mp h
  exact List.drop_eq_getElem_cons h1
theorem hni_of {A : Around} {h : Heap} (hh : HOk A h) {wr : List Addr} (new : ∀ b ∈ wr, h.get? b = none) : ∀ v, A.handled = some v → ∀ b ∈ wr, v ≠ .ref b := fun v hv b hb q => by
  obtain ⟨a, o, vs, rfl, h1, _⟩ := hh v hv
  cases q
  rw [new _ hb] at h1; cases h1
section
variable {G : Gd} {k : Nat} {sc : Scope}
theorem simS_For {tg iter : Expr} {body : List Stmt} {pos : Pos} {src : AEnv → Res (List D)} {xs : List Str} {b : D → AEnv → Option AEnv} {f : AEnv → Res Fl} (hi : SimI G k sc tg iter src) (ht : SimA G sc tg xs b) (hxs : ∀ x ∈ xs, sc.names.lookup x = some .local ∨ sc.names.lookup x = some .cell) (hb : SimSs G k sc body f)
    (hs : ∀ env x, foldedSetIterable iter env x = pure x) : SimS G k sc (.For tg iter body [] pos) (sFor src b f) := by
  intro cx ok fn ρ S s r Q E out
  refine wpAny_For ?_ (hs cx.env)
  refine hi cx ok ρ S s r _ _ ?_
  unfold sFor at out
  cases hsrc : src ρ with
  | stuck => rw [hsrc] at out; exact out.elim
  | exc C ρ₁ => rw [hsrc] at out; exact out
  | ok ds ρ₁ =>
    rw [hsrc] at out
    simp only [Res.bind] at out
    intro I wr St S₁ h₁ t₁ r₁ it st₁ nw x₁ v₁
    have hn : ∀ x ∈ xs, OwnName cx sc x := fun x hx => (hxs x hx).imp id fun q => ⟨q, fn.has x (by unfold Env.kindOf; rw [ok.hsc]; exact q)⟩
    have new : ∀ b ∈ wr, cx.h₀.get? b = none ∧ G.B.get? b = none := fun b hb => ⟨r.keep.none (nw b hb), by
      cases q : G.B.get? b with
      | none => rfl
      | some o => have := r.base b o q; rw [nw b hb] at this; cases this⟩
    have err : ∀ {C : Addr} {ρ' : AEnv} {e : Addr} {h' : Heap} {tk : Nat} {S' : Addr → Prop}, Out G cx sc false S s (fun S' h' a b => FlJ cx S' h' a b) Q E (.exc C ρ') → Rel G cx sc ρ' S' h' → Fly s.heap h' e C → Ext S s.heap S' h' → notedBy G.M cx.A cx.env (fun e s' => cameBackBy G.M cx.A cx.env E e s') (.ref e) { s with heap := h', toks := tk } := by
      intro C ρ' e h' tk S' o r' f' x'
      refine noted_out ok r r' x' f' ⟨h', tk, rfl⟩ fun h₂ t₂ r₂ f₂ x₂ => ?_
      exact came_out r r₂ x₂ f₂ ⟨h₂, t₂, rfl⟩ fun h₃ t₃ r₃ f₃ x₃ => o e h₃ t₃ S' r₃ f₃.fly x₃
    refine codeAny_forLoop_any (fun m s' => ∃ i ρ' S' h' tk, m = ds.length + 1 - i ∧ i ≤ ds.length ∧ s' = { s with heap := h', toks := tk } ∧ Rel G cx sc ρ' S' h' ∧ St i S' h' ∧ Ext S s.heap S' h' ∧ Out G cx sc false S s (fun S' h' a b => FlJ cx S' h' a b) Q E (forN b f (ds.drop i) ρ')) ?_ (ds.length + 1)
      ⟨0, ρ₁, S₁, h₁, t₁, rfl, Nat.zero_le _, rfl, r₁, st₁, x₁, by rw [List.drop_zero]; exact out⟩
    rintro m s' ⟨i, ρ', S', h', tk, rfl, hi', rfl, r', st', x', out'⟩
    by_cases hlt : i < ds.length
    · have hd : ds[i]? = some ds[i] := List.getElem?_eq_getElem hlt
      rw [drop_cons_of hd] at out'
      rw [forN] at out'
      cases hbd : b ds[i] ρ' with
      | none => rw [hbd] at out'; exact out'.elim
      | some ρ₂ =>
        rw [hbd] at out'
        simp only at out'
        refine wpAny_mono (it.item i S' { s with heap := h', toks := tk } ds[i] _ _ (notedBy G.M cx.A cx.env fun e s' => cameBackBy G.M cx.A cx.env E e s') hd st' fun v h₂ t₂ rv st₂ kb => (?_ : (fun v s₂ => wpAny G.M cx.A (assign tg cx.env v) (fun _ s₂ => wpAny G.M cx.A (execs body cx.env) (fun f s₃ => match f with
            | .next | .cont => ∃ m', m' < ds.length + 1 - i ∧ ∃ i ρ' S' h' tk, m' = ds.length + 1 - i ∧ i ≤ ds.length ∧ s₃ = { s with heap := h', toks := tk } ∧ Rel G cx sc ρ' S' h' ∧ St i S' h' ∧ Ext S s.heap S' h' ∧ Out G cx sc false S s (fun S' h' a b => FlJ cx S' h' a b) Q E (forN b _ (ds.drop i) ρ')
            | .brk => Q .next s₃
            | .ret v => Q (.ret v) s₃) (notedBy G.M cx.A cx.env fun e s' => cameBackBy G.M cx.A cx.env E e s') s₂) (notedBy G.M cx.A cx.env fun e s' => cameBackBy G.M cx.A cx.env E e s') s₂) v _)) (fun rr s₁ h₁ => by
              obtain ⟨v, rfl, h₁⟩ := h₁
              exact h₁) fun _ _ e => e
        obtain ⟨r₂, v₂⟩ := r'.aside (it.shape i S' h' st') new kb
        have x₂ := x'.aside nw kb
        refine ht cx k ok fn.toFnCx hn ρ' S' { s with heap := h₂, toks := t₂ } v ds[i] ρ₂ r₂ rv hbd _ _ ?_
        intro _ h₃ t₃ S₃ r₃ _ x₃ _
        have st₃ := it.ext _ _ _ _ _ st₂ x₃
        refine hb cx ok fn ρ₂ S₃ { s with heap := h₃, toks := t₃ } r₃ _ _ ?_
        cases hf : f ρ₂ with
        | stuck => rw [hf] at out'; exact out'.elim
        | exc C ρ₃ =>
          rw [hf] at out'
          intro e h₄ t₄ S₄ r₄ f₄ x₄
          exact err out' r₄ (f₄.back (x₂.trans x₃)) ((x₂.trans x₃).trans x₄)
        | ok fl ρ₃ =>
          rw [hf] at out'
          simp only [Res.bind] at out'
          intro a h₄ t₄ S₄ r₄ j₄ x₄ _
          have st₄ := it.ext _ _ _ _ _ st₃ x₄
          have xx := (x₂.trans x₃).trans x₄
          cases a <;> cases fl <;> first
            | exact j₄.elim
            | exact ⟨ds.length + 1 - (i + 1), by omega, i + 1, ρ₃, S₄, h₄, t₄, rfl, hlt, rfl, r₄, st₄, xx, out'⟩
            | exact out' _ h₄ t₄ S₄ r₄ j₄ xx fun q => by cases q
    · have hie : i = ds.length := by omega
      subst hie
      rw [List.drop_length] at out'
      refine it.done S' { s with heap := h', toks := tk } _ _ st' r'.hOk (hni_of r.hOk nw) fun h₂ t₂ kb => ?_
      obtain ⟨r₂, v₂⟩ := r'.aside (it.shape _ S' h' st') new kb
      exact wpAny_execs_nil (out' .next h₂ t₂ S' r₂ trivial (x'.aside nw kb) fun q => by cases q)
end
end Mine
end

section
set_option Elab.async false
set_option maxRecDepth 100000
namespace Mine
open PySem PyProof.Rows
section
variable {prog : Program} {w : World} {A : Around} {E : Value → Shared → Prop} {s : Shared}
end
open AutoSeq1 (wpAny_loadPart') in
noncomputable def enumL (ds : List D) : List D := ds.zipIdx.map fun x => .tup [.int x.2, x.1]
noncomputable def EnumSt (T It : String) (e it l : Addr) (ds : List D) (i : Nat) (S : Addr → Prop) (h : Heap) : Prop := (∃ old, IsEnum h e it i old) ∧ SeqSt T It it l ds i S h
section
variable {G : Gd} {A : Around} {es : List Expr} {n : Nat} {p : Pos}
end
noncomputable def eEnum (f : AEnv → Res T) : AEnv → Res (List D) := fun ρ => (f ρ).bind fun t ρ₁ => match t.val with
  | .list ds => .ok (enumL ds) ρ₁
  | .tup ds => .ok (enumL ds) ρ₁
  | _ => .stuck
end Mine
end

section
set_option Elab.async false
set_option maxRecDepth 100000
namespace Mine
open PySem PyProof.Rows
noncomputable def hideH (h : Heap) (X : List Addr) : Heap := { h with objs := h.objs.mapIdx fun i o => if i ∈ X then { o with data := .freed } else o }
theorem hideH_get (h : Heap) (X : List Addr) (a : Addr) : (hideH h X).get? a = if a ∈ X then none else h.get? a := by
  unfold hideH Heap.get?
  simp only [Array.getElem?_mapIdx]
  cases h.objs[a]? with
  | none => simp
  | some o =>
    by_cases hx : a ∈ X
    · simp [hx]
    · simp [hx]
theorem hideH_some {h : Heap} {X : List Addr} {a : Addr} {o : Obj} (e : (hideH h X).get? a = some o) : a ∉ X ∧ h.get? a = some o := by
  rw [hideH_get] at e
  split at e
  · cases e
  · exact ⟨by assumption, e⟩
structure After (X : List Addr) (S : Addr → Prop) (h : Heap) (S' : Addr → Prop) (h' : Heap) : Prop where
  keep : ∀ b o, b ∉ X → h.get? b = some o → ∃ sl, h'.get? b = some { o with slots := sl } ∧ (NotDict o → sl = o.slots)
  dom : ∀ b ∈ X, ∃ o, h'.get? b = some o
  shape : ∀ b ∈ X, ∃ o, h.get? b = some o ∧ Iterish o
  sub : ∀ b, S b → S' b
  new : ∀ b, S' b → S b ∨ b ∈ X ∨ h.get? b = none
  sdom : SDom S' h'
section
variable {X : List Addr} {S S' S'' : Addr → Prop} {h h' h'' : Heap}
theorem After.exact (k : After X S h S' h') {b : Addr} {o : Obj} (e : h.get? b = some o) (hi : ¬ Iterish o) (hn : NotDict o) : h'.get? b = some o := by
  have hb : b ∉ X := fun m => by obtain ⟨o', e', q⟩ := k.shape b m; rw [e] at e'; cases e'; exact hi q
  obtain ⟨sl, e', q⟩ := k.keep b o hb e
  rw [q hn] at e'; exact e'
theorem After.domAll (k : After X S h S' h') {b : Addr} {o : Obj} (e : h.get? b = some o) : ∃ o', h'.get? b = some o' := by
  by_cases hb : b ∈ X
  · exact k.dom b hb
  · obtain ⟨sl, e', _⟩ := k.keep b o hb e; exact ⟨_, e'⟩
theorem notIterish_seq {o : Obj} {vs : Array Value} {n : Nat} (hd : o.data = .seq vs n) : ¬ Iterish o := fun ⟨_, _, _, _, _, _, q⟩ => by rw [hd] at q; cases q
theorem notIterish_cell {o : Obj} {v : Option Value} (hd : o.data = .cell v) : ¬ Iterish o := fun ⟨_, _, _, _, _, _, q⟩ => by rw [hd] at q; cases q
theorem notIterish_dict {o : Obj} {es : Array DictEntry} {n : Nat} (hd : o.data = .dict es n) : ¬ Iterish o := fun ⟨_, _, _, _, _, _, q⟩ => by rw [hd] at q; cases q
theorem After.carry (k : After X S h S' h') : Carry S h S' h' where
  tup := fun e hc hd => k.exact e (notIterish_seq hd) (.seq hd)
  list := fun hs e hc hd => ⟨k.sub _ hs, k.exact e (notIterish_seq hd) (.seq hd)⟩
  range := fun e => k.exact e (fun ⟨_, _, q1, _, _, q4, _⟩ => by cases q1; exact q4 rfl) (.fields rfl)
  exc := fun e hc hn hd r => .exc (k.exact e (fun ⟨_, _, q1, _⟩ => by rw [hc] at q1; cases q1) (.fields hd)) hc hn hd r
  dom := fun a o e' => k.domAll e'
theorem RV.after (k : After X S h S' h') {v : Value} {d : D} (q : RV S h v d) : RV S' h' v d := q.map k.carry
theorem RVs.after (k : After X S h S' h') {vs : List Value} {ds : List D} (q : RVs S h vs ds) : RVs S' h' vs ds := q.map k.carry
theorem After.ns (k : After X S h S' h') {a : Addr} {m : Str → Option Value} (n : h.Ns a m) : h'.Ns a m := by
  obtain ⟨o, es, ep, ho, hd, r⟩ := n
  have hb : a ∉ X := fun q => by obtain ⟨o', e', q⟩ := k.shape a q; rw [ho] at e'; cases e'; exact notIterish_dict hd q
  obtain ⟨sl, e', _⟩ := k.keep a o hb ho
  exact ⟨_, es, ep, e', hd, r⟩
theorem After.cell (k : After X S h S' h') {c : Addr} {v : Option Value} (n : h.IsCell c v) : h'.IsCell c v := by
  obtain ⟨o, ho, hd⟩ := n
  exact ⟨o, k.exact ho (notIterish_cell hd) (fun es n q => by rw [hd] at q; cases q), hd⟩
theorem After.own (k : After X S h S' h') {a : Addr} {d : D} (q : OwnAt S h a d) : OwnAt S' h' a d := by
  unfold OwnAt at q ⊢
  split at q
  · obtain ⟨vs, n, e, r⟩ := q
    exact ⟨vs, n, k.exact e (notIterish_seq rfl) (.seq rfl), r.after k⟩
  · exact q
theorem After.notS (k : After X S h S' h') {a : Addr} {o : Obj} (e : h.get? a = some o) (hi : ¬ Iterish o) (hs : ¬ S a) : ¬ S' a := fun q => by
  rcases k.new a q with q | q | q
  · exact hs q
  · obtain ⟨o', e', q⟩ := k.shape a q; rw [e] at e'; cases e'; exact hi q
  · rw [e] at q; cases q
end
section
variable {G : Gd} {cx : Cx} {sc : Scope} {ρ : AEnv} {X : List Addr} {S S' : Addr → Prop} {h h' : Heap}
theorem Rel.after (r : Rel G cx sc ρ S h) (k : After X S h S' h') (hb : G.B.StaysIn h') (new : ∀ b ∈ X, cx.h₀.get? b = none) : Rel G cx sc ρ S' h' ∧ VarSame cx.env h h' := by
  have same : VarSame cx.env h h' := fun y w q => by
    rcases q with ⟨a, m₁, b, c⟩ | ⟨a, c, b, d⟩
    · exact .inl ⟨a, m₁, k.ns b, c⟩
    · exact .inr ⟨a, c, b, k.cell d⟩
  have hf : ∀ y w, Var cx.env h' y w → Var cx.env h y w := fun y w q => by
    rcases q with ⟨a, m₁, b, c⟩ | ⟨a, c, b, d⟩
    · obtain ⟨m₀, n₀⟩ := r.ns
      exact .inl ⟨a, m₀, n₀, by rw [(k.ns n₀).agree b y]; exact c⟩
    · obtain ⟨w₀, n₀⟩ := r.cells y c b
      exact .inr ⟨a, c, b, by rw [IsCell.inj d (k.cell n₀)]; exact n₀⟩
  refine ⟨⟨hb, fun b o q => ?_, fun env he => ?_, let ⟨m, n⟩ := r.ns; ⟨m, k.ns n⟩, fun y c q => let ⟨w, n⟩ := r.cells y c q; ⟨w, k.cell n⟩, k.sdom, fun b q => ?_, ?_, fun y c e => ?_, fun y b hdy q => let ⟨o, eo⟩ := r.live y b hdy (hf y _ q); k.domAll eo, r.clean, fun v q => let ⟨C, e⟩ := r.hok v q; ⟨C, e.after k⟩, fun j y u hy hu => ?_, fun j l y z m m' d d' u hy hz hj hl a b => r.inj j l y z m m' d d' u hy hz hj hl (hf y _ a) (hf z _ b)⟩, same⟩
  · obtain ⟨sl, q₁, k₁⟩ := r.keep b o q
    obtain ⟨sl', q₂, k₂⟩ := k.keep b _ (fun m => by rw [new b m] at q; cases q) q₁
    exact ⟨sl', q₂, fun hn => (k₂ hn).trans (k₁ hn)⟩
  · obtain ⟨p, L, o, b, c, d, es, n, q⟩ := r.ff env he
    have hL : L ∉ X := fun m => by obtain ⟨o', e', q'⟩ := k.shape L m; rw [d] at e'; cases e'; exact notIterish_dict q q'
    obtain ⟨sl', q₂, k₂⟩ := k.keep L o hL d
    exact ⟨p, L, _, b, c, q₂, es, n, q⟩
  · rcases k.new b q with q | q | q
    · exact r.sok b q
    · exact .inr (new b q)
    · exact .inr (r.keep.none q)
  · obtain ⟨m, o, es, ep, e, hd, _⟩ := r.ns
    exact k.notS e (notIterish_dict hd) r.sloc
  · obtain ⟨w, o, e', hd⟩ := r.cells y c e
    exact k.notS e' (notIterish_cell hd) (r.scell y c e)
  · obtain ⟨w, hw', tw⟩ := r.vars j y u hy hu
    refine ⟨w, same y w hw', ?_⟩
    cases u with
    | sh d => exact RV.after k tw
    | ow m d =>
      obtain ⟨b, rfl, n1, ow, n2⟩ := tw
      obtain ⟨o, ho, _, vs, n, hd⟩ := ow.cls
      exact ⟨b, rfl, k.notS ho (notIterish_seq hd) n1, k.own ow, n2⟩
end
noncomputable def relabelS (csc sc : Scope) : Scope := { csc with names := csc.names.map fun (n, k) => if (k == .free && sc.kind == .function && sc.names.lookup n == some .cell) then (n, .cell) else (n, k) }
theorem relabel_eq {csc sc : Scope} {env : Env} (h : env.scope = sc) : relabel csc env = relabelS csc sc := by
  unfold relabel relabelS Env.kindOf
  rw [h]
noncomputable def nodupB : List Str → Bool
  | [] => true
  | x :: r => !r.contains x && nodupB r
theorem nodupB_ok : ∀ {l : List Str}, nodupB l = true → l.Nodup
  | [], _ => .nil
  | x :: r, h => by
    rw [nodupB, Bool.and_eq_true_iff] at h
    exact List.nodup_cons.mpr ⟨by simpa using h.1, nodupB_ok h.2⟩
noncomputable def compOk (sc csc : Scope) : Bool := csc.kind == .function && nodupB (csc.names.map (·.1)) && csc.names.all fun x => x.2 != .free || ((varNames sc).contains x.1 && (sc.names.lookup x.1 == some .cell || sc.names.lookup x.1 == some .free))
theorem lookup_mem {α : Type} : ∀ {l : List (Str × α)} {x : Str} {k : α}, (l.map (·.1)).Nodup → (x, k) ∈ l → l.lookup x = some k
  | (y, j) :: r, x, k, nd, h => by
    have nd' : y ∉ r.map (·.1) ∧ (r.map (·.1)).Nodup := by simpa using nd
    rw [List.lookup_cons]
    rcases List.mem_cons.mp h with e | hr
    · cases e; simp
    · have : (x == y) = false := by
        rw [beq_eq_false_iff_ne]
        rintro rfl
        exact nd'.1 (List.mem_map.mpr ⟨(x, k), hr, rfl⟩)
      rw [this]
      exact lookup_mem nd'.2 hr
theorem lookup_mapSnd {α : Type} (f : Str → α → α) (x : Str) : ∀ (l : List (Str × α)), (l.map fun p => (p.1, f p.1 p.2)).lookup x = (l.lookup x).map (f x)
  | [] => rfl
  | (n, k) :: r => by
    rw [List.map_cons, List.lookup_cons, List.lookup_cons]
    cases hx : x == n with
    | true => rw [beq_iff_eq.mp hx]; rfl
    | false => exact lookup_mapSnd f x r
theorem lookup_relabelS {csc sc : Scope} {x : Str} : (relabelS csc sc).names.lookup x = (csc.names.lookup x).map fun k => if (k == .free && sc.kind == .function && sc.names.lookup x == some .cell) then .cell else k := by
  have e : (relabelS csc sc).names = csc.names.map fun p => (p.1, (fun n k => if (k == NameKind.free && sc.kind == .function && sc.names.lookup n == some .cell) then NameKind.cell else k) p.1 p.2) := by
    unfold relabelS
    apply List.map_congr_left
    intro p _
    obtain ⟨n, k⟩ := p
    simp only
    split <;> rfl
  rw [e]
  exact lookup_mapSnd (fun n k => if (k == NameKind.free && sc.kind == .function && sc.names.lookup n == some .cell) then NameKind.cell else k) x csc.names
theorem varNames_nodup {sc : Scope} (h : (sc.names.map (·.1)).Nodup) : (varNames sc).Nodup := by
  unfold varNames
  exact h.sublist (List.Sublist.map _ List.filter_sublist)
theorem relabelS_fst (csc sc : Scope) : (relabelS csc sc).names.map (·.1) = csc.names.map (·.1) := by
  unfold relabelS
  simp only [List.map_map]
  apply List.map_congr_left
  intro x _
  simp only [Function.comp]
  split <;> rfl
noncomputable def closL (env : Env) : List (Str × NameKind) → List (Str × Addr) → List (Str × Addr)
  | [], acc => acc
  | (n, k) :: r, acc => if k == .free then (match env.cells.lookup n with | some c => closL env r ((n, c) :: acc) | none => closL env r acc) else closL env r acc
theorem closureFor_eq {csc : Scope} {env : Env} (h : ∀ x ∈ csc.names, x.2 = .free → ∃ c, env.cells.lookup x.1 = some c) : closureFor csc env = pure (closL env csc.names []) := by
  have key : ∀ (l : List (Str × NameKind)) (acc : List (Str × Addr)), (∀ x ∈ l, x.2 = .free → ∃ c, env.cells.lookup x.1 = some c) →
      (forIn l acc fun x r => match x with | (name, kind) => if kind == .free then (do let a ← cellOf env name; pure (ForInStep.yield ((name, a) :: r))) else pure (ForInStep.yield r) : Sem (List (Str × Addr))) = pure (closL env l acc) := by
    intro l
    induction l with
    | nil => intro acc _; rfl
    | cons x r ih =>
      intro acc hl
      obtain ⟨n, k⟩ := x
      rw [List.forIn_cons, closL]
      by_cases hk : k == .free
      · obtain ⟨c, hc⟩ := hl (n, k) (.head _) (beq_iff_eq.mp hk)
        simp only [hk, if_true]
        have : cellOf env n = pure c := by unfold cellOf; simp only at hc; rw [hc]
        rw [this]
        simp only [hc]
        rw [pure_bind, pure_bind]
        exact ih _ fun y hy => hl y (.tail _ hy)
      · simp only [hk, Bool.false_eq_true, if_false]
        rw [pure_bind]
        exact ih _ fun y hy => hl y (.tail _ hy)
  unfold closureFor
  have := key csc.names [] h
  simp only [bind_pure] 
  exact this
theorem closL_lookup {env : Env} : ∀ {l : List (Str × NameKind)} {acc : List (Str × Addr)} {x : Str} {c : Addr}, (closL env l acc).lookup x = some c → env.cells.lookup x = some c ∨ acc.lookup x = some c
  | [], _, _, _, h => .inr h
  | (n, k) :: r, acc, x, c, h => by
    rw [closL] at h
    split at h
    · split at h
      · rename_i c' hc
        rcases closL_lookup h with q | q
        · exact .inl q
        · rw [List.lookup_cons] at q
          cases hx : x == n with
          | true => rw [hx] at q; cases q; rw [beq_iff_eq.mp hx]; exact .inl hc
          | false => rw [hx] at q; exact .inr q
      · exact closL_lookup h
    · exact closL_lookup h
theorem closL_names {env : Env} : ∀ {l : List (Str × NameKind)} {acc : List (Str × Addr)} {x : Str} {c : Addr}, (closL env l acc).lookup x = some c → (x, .free) ∈ l ∨ ∃ c', acc.lookup x = some c'
  | [], _, _, _, h => .inr ⟨_, h⟩
  | (n, k) :: r, acc, x, c, h => by
    rw [closL] at h
    split at h
    · rename_i hk
      split at h
      · rcases closL_names h with q | ⟨c', q⟩
        · exact .inl (.tail _ q)
        · rw [List.lookup_cons] at q
          cases hx : x == n with
          | true => rw [beq_iff_eq.mp hx, ← beq_iff_eq.mp hk]; exact .inl (.head _)
          | false => rw [hx] at q; exact .inr ⟨_, q⟩
      · rcases closL_names h with q | q
        · exact .inl (.tail _ q)
        · exact .inr q
    · rcases closL_names h with q | q
      · exact .inl (.tail _ q)
      · exact .inr q
theorem closL_has {env : Env} {x : Str} {c : Addr} (hc : env.cells.lookup x = some c) : ∀ {l : List (Str × NameKind)} {acc : List (Str × Addr)}, ((x, .free) ∈ l ∨ acc.lookup x = some c) → (closL env l acc).lookup x = some c
  | [], _, h => h.elim (fun q => by cases q) id
  | (n, k) :: r, acc, h => by
    rw [closL]
    by_cases hx : x = n
    · subst hx
      split
      · rw [hc]
        exact closL_has hc (.inr (by simp))
      · rename_i hk
        refine closL_has hc ?_
        rcases h with h | h
        · rcases List.mem_cons.mp h with e | h
          · cases e; exact absurd rfl hk
          · exact .inl h
        · exact .inr h
    · have h' : (x, NameKind.free) ∈ r ∨ acc.lookup x = some c := h.imp (fun h => by
        rcases List.mem_cons.mp h with e | h
        · cases e; exact absurd rfl hx
        · exact h) id
      have hb : (x == n) = false := by simpa using hx
      split
      · split
        · exact closL_has hc (h'.imp id fun q => by rw [List.lookup_cons, hb]; exact q)
        · exact closL_has hc h'
      · exact closL_has hc h'
theorem cellsFrom_lookup : ∀ {l : List (Str × NameKind)} {n : Nat} {acc : List (Str × Addr)} {x : Str} {c : Addr}, (cellsFrom n l acc).lookup x = some c → (n ≤ c ∧ (x, .cell) ∈ l) ∨ acc.lookup x = some c
  | [], _, _, _, _, h => .inr h
  | (y, k) :: r, n, acc, x, c, h => by
    unfold cellsFrom at h
    split at h
    · rename_i hk
      rcases cellsFrom_lookup h with ⟨q, m⟩ | q
      · exact .inl ⟨Nat.le_of_succ_le q, .tail _ m⟩
      · rw [List.lookup_cons] at q
        cases hx : x == y with
        | true => rw [hx] at q; cases q; rw [beq_iff_eq.mp hx, ← beq_iff_eq.mp hk]; exact .inl ⟨Nat.le_refl _, .head _⟩
        | false => rw [hx] at q; exact .inr q
    · rcases cellsFrom_lookup h with ⟨q, m⟩ | q
      · exact .inl ⟨q, .tail _ m⟩
      · exact .inr q
theorem cellsFrom_acc : ∀ {l : List (Str × NameKind)} {n : Nat} {acc : List (Str × Addr)} {x : Str}, (∀ k, (x, k) ∈ l → k ≠ .cell) → (cellsFrom n l acc).lookup x = acc.lookup x
  | [], _, _, _, _ => rfl
  | (y, k) :: r, n, acc, x, h => by
    unfold cellsFrom
    split
    · rename_i hk
      rw [cellsFrom_acc fun k' m => h k' (.tail _ m), List.lookup_cons]
      have : (x == y) = false := by
        rw [beq_eq_false_iff_ne]
        rintro rfl
        exact h k (.head _) (beq_iff_eq.mp hk)
      rw [this]
    · exact cellsFrom_acc fun k' m => h k' (.tail _ m)
theorem newFunctionEnv_comp {M : Model} {A : Around} {E : Value → Shared → Prop} {s : Shared} {csc : Scope} {gl : Addr} {cl : List (Str × Addr)} {q : Str} {env : Env} {Q : Env → Shared → Prop}
    (h : Q { scope := csc, locals := s.heap.objs.size, globals := gl, cells := cellsFrom (s.heap.objs.size + 1) csc.names cl, qual := q, func := none, code := env.code, frame := env.frame, builtins := env.builtins } { s with heap := pushCells (s.heap.push { cls := .type "dict", data := .dict #[] }) csc.names }) :
    wpAny M A (newFunctionEnv csc gl cl [] q none .none (some env)) Q E s := by
  simp only [newFunctionEnv, Option.isSome_some, if_true]
  refine wpAny_bind (wpAny_alloc ?_)
  refine wpAny_bind (wpAny_layCells _ (fun name kind cells => by cases hkc : kind == NameKind.cell <;> simp [hkc]) _ _ _ _ ?_)
  rw [show ({ s with heap := s.heap.push { cls := .type "dict", data := .dict #[] } } : Shared).heap.objs.size = s.heap.objs.size + 1 from Heap.size_push ..]
  rw [List.forIn_nil]
  exact wpAny_bind (wpAny_pure (wpAny_pure h))
end Mine
end

section
set_option Elab.async false
set_option maxRecDepth 100000
namespace Mine
open PySem PyProof.Rows
noncomputable def T.weak : T → T
  | .sh d => .sh d
  | .ow _ d => .ow false d
noncomputable def capOne (sc csc : Scope) (ρ : AEnv) (x : Str) : Option (Option T) :=
  if csc.names.lookup x == some .free then (match (varNames sc).findIdx? (· == x) with
    | some i => (match ρ[i]? with | some (some t) => some (some t.weak) | _ => none)
    | none => none) else some none
noncomputable def capL (sc csc : Scope) (ρ : AEnv) : List Str → Option AEnv
  | [] => some []
  | x :: r => match capOne sc csc ρ x, capL sc csc ρ r with
    | some t, some ts => some (t :: ts)
    | _, _ => none
theorem capL_get {sc csc : Scope} {ρ : AEnv} : ∀ {l : List Str} {ρ₀ : AEnv}, capL sc csc ρ l = some ρ₀ → ∀ {j : Nat} {x : Str} {u : Option T}, l[j]? = some x → ρ₀[j]? = some u → capOne sc csc ρ x = some u
  | [], _, _, _, _, _, h, _ => by simp at h
  | y :: r, ρ₀, e, j, x, u, hx, hu => by
    rw [capL] at e
    split at e
    · rename_i t ts h1 h2
      cases e
      cases j with
      | zero => simp at hx hu; subst hx; subst hu; exact h1
      | succ j => exact capL_get h2 (by simpa using hx) (by simpa using hu)
    · cases e
theorem capL_has {sc csc : Scope} {ρ : AEnv} : ∀ {l : List Str} {ρ₀ : AEnv}, capL sc csc ρ l = some ρ₀ → ∀ {x : Str}, x ∈ l → ∃ u, capOne sc csc ρ x = some u
  | [], _, _, _, h => by cases h
  | y :: r, ρ₀, e, x, hx => by
    rw [capL] at e
    split at e
    · rename_i t ts h1 h2
      rcases List.mem_cons.mp hx with rfl | hx
      · exact ⟨_, h1⟩
      · exact capL_has h2 hx
    · cases e
theorem capOne_some {sc csc : Scope} {ρ : AEnv} {x : Str} {t : T} (h : capOne sc csc ρ x = some (some t)) : csc.names.lookup x = some .free ∧ ∃ (i : Nat) (t₀ : T), (varNames sc)[i]? = some x ∧ ρ[i]? = some (some t₀) ∧ t = t₀.weak := by
  unfold capOne at h
  split at h
  · rename_i hf
    refine ⟨beq_iff_eq.mp hf, ?_⟩
    split at h
    · rename_i i hi
      split at h
      · rename_i t₀ ht
        cases h
        obtain ⟨h1, h2, _⟩ := List.findIdx?_eq_some_iff_getElem.mp hi
        exact ⟨i, t₀, by rw [List.getElem?_eq_getElem h1]; exact congrArg some (beq_iff_eq.mp h2), ht, rfl⟩
      · cases h
    · cases h
  · cases h
theorem capOne_free {sc csc : Scope} {ρ : AEnv} {x : Str} {u : Option T} (h : capOne sc csc ρ x = some u) (hf : csc.names.lookup x = some .free) : ∃ t, u = some t := by
  unfold capOne at h
  rw [if_pos (by rw [hf]; rfl)] at h
  split at h
  · split at h
    · cases h; exact ⟨_, rfl⟩
    · cases h
  · cases h
noncomputable def compCells (csc : Scope) (env : Env) (C : Addr) : List (Str × Addr) := cellsFrom (C + 1) csc.names (closL env csc.names [])
noncomputable def compE (csc sc : Scope) (env : Env) (C : Addr) : Env := { scope := relabelS csc sc, locals := C, globals := env.globals, cells := compCells csc env C, qual := env.qual, func := none, code := env.code, frame := env.frame, builtins := env.builtins }
noncomputable def ownA (csc : Scope) (env : Env) (C : Addr) : List Addr := ((compCells csc env C).filter fun p => decide (C < p.2)).map (·.2)
noncomputable def cxAt (cx : Cx) (csc sc : Scope) (C : Addr) (wr : List Addr) (S : Addr → Prop) (h : Heap) : Cx := { A := cx.A, env := compE csc sc cx.env C, fs := cx.fs, h₀ := hideH h (wr ++ C :: ownA csc cx.env C), P := S }
structure CI (G : Gd) (cx : Cx) (sc csc : Scope) (S₁ : Addr → Prop) (h₁ : Heap) (wr : List Addr) (C : Addr) (S : Addr → Prop) (h : Heap) : Prop where
  aft : After wr S₁ h₁ S h
  base : G.B.StaysIn h
  ns : ∃ m, h.Ns C m
  cells : ∀ x c, (compCells csc cx.env C).lookup x = some c → ∃ v, h.IsCell c v
  sloc : ¬ S C
  scell : ∀ x c, (compCells csc cx.env C).lookup x = some c → ¬ S c
  live : ∀ x a, isDirty x = false → Var (compE csc sc cx.env C) h x (.ref a) → ∃ o, h.get? a = some o
theorem cellsFrom_inj {lo : Nat} : ∀ {l : List (Str × NameKind)} {n : Nat} {acc : List (Str × Addr)}, (∀ x c, acc.lookup x = some c → c < n) → (∀ x y c, lo ≤ c → acc.lookup x = some c → acc.lookup y = some c → x = y) → ∀ x y c, lo ≤ c → (cellsFrom n l acc).lookup x = some c → (cellsFrom n l acc).lookup y = some c → x = y
  | [], _, _, _, h => h
  | (z, k) :: r, n, acc, hb, h => by
    unfold cellsFrom
    split
    · refine cellsFrom_inj (fun x c q => ?_) fun x y c hc qx qy => ?_
      · rw [List.lookup_cons] at q
        cases hx : x == z with
        | true => rw [hx] at q; cases q; exact Nat.lt_succ_self _
        | false => rw [hx] at q; exact Nat.lt_succ_of_lt (hb x c q)
      · rw [List.lookup_cons] at qx qy
        cases hx : x == z <;> cases hy : y == z <;> rw [hx] at qx <;> rw [hy] at qy
        · exact h x y c hc qx qy
        · cases qy; exact absurd (hb x _ qx) (Nat.lt_irrefl _)
        · cases qx; exact absurd (hb y _ qy) (Nat.lt_irrefl _)
        · rw [beq_iff_eq.mp hx, beq_iff_eq.mp hy]
    · exact cellsFrom_inj hb h
section
variable {G : Gd} {cx : Cx} {sc csc : Scope} {ρ₁ ρ₀ : AEnv} {S₁ S S' : Addr → Prop} {h₁ h h' : Heap} {wr : List Addr} {C : Addr} {k : Nat}
structure CG (G : Gd) (cx : Cx) (sc csc : Scope) (ρ₁ : AEnv) (S₁ : Addr → Prop) (h₁ : Heap) (wr : List Addr) (C : Addr) (ρ₀ : AEnv) : Prop where
  hsc : cx.env.scope = sc
  r : Rel G cx sc ρ₁ S₁ h₁
  new : ∀ b ∈ wr, cx.h₀.get? b = none ∧ G.B.get? b = none
  hC : h₁.objs.size ≤ C
  ok : compOk sc csc = true
  cap : capL sc csc ρ₁ (varNames (relabelS csc sc)) = some ρ₀
theorem CG.nodup (g : CG G cx sc csc ρ₁ S₁ h₁ wr C ρ₀) : (csc.names.map (·.1)).Nodup := by
  have := g.ok
  unfold compOk at this
  simp only [Bool.and_eq_true] at this
  exact nodupB_ok this.1.2
theorem CG.kind (g : CG G cx sc csc ρ₁ S₁ h₁ wr C ρ₀) : csc.kind = .function := by
  have := g.ok
  unfold compOk at this
  simp only [Bool.and_eq_true, beq_iff_eq] at this
  exact this.1.1
theorem CG.free (g : CG G cx sc csc ρ₁ S₁ h₁ wr C ρ₀) {x : Str} (h : (x, .free) ∈ csc.names) : x ∈ varNames sc ∧ (sc.names.lookup x = some .cell ∨ sc.names.lookup x = some .free) := by
  have := g.ok
  unfold compOk at this
  simp only [Bool.and_eq_true] at this
  have := List.all_eq_true.mp this.2 _ h
  simpa using this
theorem mem_of_lookup' {α : Type} {l : List (Str × α)} {n : Str} {c : α} (h : l.lookup n = some c) : (n, c) ∈ l := mem_of_lookup h
theorem CG.taken (g : CG G cx sc csc ρ₁ S₁ h₁ wr C ρ₀) {x : Str} (hf : csc.names.lookup x = some .free) : ∃ (c : Addr) (v : Value) (i : Nat) (t : T), cx.env.cells.lookup x = some c ∧ (compCells csc cx.env C).lookup x = some c ∧ h₁.IsCell c (some v) ∧ (varNames sc)[i]? = some x ∧ ρ₁[i]? = some (some t) ∧ TVar cx.h₀ S₁ h₁ v t ∧ (cx.env.kindOf x = some .cell ∨ cx.env.kindOf x = some .free) := by
  have hm := mem_of_lookup' hf
  obtain ⟨hv, hk⟩ := g.free hm
  have hx' : x ∈ varNames (relabelS csc sc) := by
    have : (x, if (NameKind.free == .free && sc.kind == .function && sc.names.lookup x == some .cell) then NameKind.cell else .free) ∈ (relabelS csc sc).names := by
      unfold relabelS
      refine List.mem_map.mpr ⟨(x, .free), hm, ?_⟩
      simp only
      split <;> rfl
    unfold varNames
    refine List.mem_map.mpr ⟨_, List.mem_filter.mpr ⟨this, ?_⟩, rfl⟩
    simp only
    split <;> rfl
  obtain ⟨u, hu⟩ := capL_has g.cap hx'
  obtain ⟨t, rfl⟩ := capOne_free hu hf
  obtain ⟨_, i, t₀, hi, ht, rfl⟩ := capOne_some hu
  obtain ⟨v, hvar, tv⟩ := g.r.vars i x t₀ hi ht
  have hkk : cx.env.kindOf x = sc.names.lookup x := by unfold Env.kindOf; rw [g.hsc]
  rcases hvar with ⟨a, _⟩ | ⟨a, c, b, d⟩
  · rw [hkk] at a
    rcases hk with q | q <;> (rw [q] at a; cases a)
  · refine ⟨c, v, i, t₀, b, ?_, d, hi, ht, tv, a⟩
    unfold compCells
    rw [cellsFrom_acc (fun kk m q => by
      subst q
      have := lookup_mem g.nodup m
      rw [hf] at this; cases this)]
    exact closL_has b (.inl hm)
theorem CG.cellOf (g : CG G cx sc csc ρ₁ S₁ h₁ wr C ρ₀) {x : Str} {c : Addr} (hc : (compCells csc cx.env C).lookup x = some c) : (C < c ∧ (x, .cell) ∈ csc.names) ∨ (csc.names.lookup x = some .free ∧ cx.env.cells.lookup x = some c ∧ c < h₁.objs.size) := by
  unfold compCells at hc
  rcases cellsFrom_lookup hc with ⟨q, m⟩ | q
  · exact .inl ⟨q, m⟩
  · right
    have hl : cx.env.cells.lookup x = some c := by
      rcases closL_lookup q with q | q
      · exact q
      · cases q
    have hm : (x, .free) ∈ csc.names := by
      rcases closL_names q with q | ⟨_, q⟩
      · exact q
      · cases q
    refine ⟨lookup_mem g.nodup hm, hl, ?_⟩
    obtain ⟨v, o, e, _⟩ := g.r.cells x c hl
    exact Heap.lt_size e
theorem CG.notX (g : CG G cx sc csc ρ₁ S₁ h₁ wr C ρ₀) {b : Addr} {o : Obj} (e : h₁.get? b = some o) (hb : b ∉ wr) : b ∉ wr ++ C :: ownA csc cx.env C := by
  have hlt := Heap.lt_size e
  have hC := g.hC
  intro m
  rcases List.mem_append.mp m with m | m
  · exact hb m
  · rcases List.mem_cons.mp m with rfl | m
    · exact absurd hlt (Nat.not_lt.mpr hC)
    · unfold ownA at m
      obtain ⟨p, hp, rfl⟩ := List.mem_map.mp m
      have := (List.mem_filter.mp hp).2
      simp only [decide_eq_true_eq] at this
      exact absurd (Nat.lt_of_lt_of_le hlt hC) (Nat.not_lt.mpr (Nat.le_of_lt this))
theorem CG.xNew (g : CG G cx sc csc ρ₁ S₁ h₁ wr C ρ₀) {b : Addr} (hb : b ∈ C :: ownA csc cx.env C) : h₁.get? b = none := by
  have hC := g.hC
  refine Heap.get?_none_of_le ?_
  rcases List.mem_cons.mp hb with rfl | m
  · exact hC
  · unfold ownA at m
    obtain ⟨p, hp, rfl⟩ := List.mem_map.mp m
    have := (List.mem_filter.mp hp).2
    simp only [decide_eq_true_eq] at this
    exact Nat.le_trans hC (Nat.le_of_lt this)
theorem CI.rel (g : CG G cx sc csc ρ₁ S₁ h₁ wr C ρ₀) (ci : CI G cx sc csc S₁ h₁ wr C S h) : Rel G (cxAt cx csc sc C wr S h) (relabelS csc sc) ρ₀ S h := by
  obtain ⟨ro, same⟩ := g.r.after ci.aft ci.base fun b hb => (g.new b hb).1
  have nd' : (varNames (relabelS csc sc)).Nodup := varNames_nodup (by rw [relabelS_fst]; exact g.nodup)
  have kd : ∀ x, csc.names.lookup x = some .free → (compE csc sc cx.env C).kindOf x = some .cell ∨ (compE csc sc cx.env C).kindOf x = some .free := fun x hf => by
    show (relabelS csc sc).names.lookup x = _ ∨ (relabelS csc sc).names.lookup x = _
    rw [lookup_relabelS, hf, Option.map_some]
    split
    · exact .inl rfl
    · exact .inr rfl
  have got : ∀ (j : Nat) (x : Str) (t : T), (varNames (relabelS csc sc))[j]? = some x → ρ₀[j]? = some (some t) → csc.names.lookup x = some .free ∧ ∃ (i : Nat) (t₀ : T) (v : Value), (varNames sc)[i]? = some x ∧ ρ₁[i]? = some (some t₀) ∧ t = t₀.weak ∧ Var cx.env h x v ∧ Var (compE csc sc cx.env C) h x v ∧ TVar cx.h₀ S h v t₀ := fun j x t hx ht => by
    have hu := capL_get g.cap hx ht
    obtain ⟨hf, i, t₀, hi, ht₀, rfl⟩ := capOne_some hu
    obtain ⟨c, v', i', t', hc, hcc, hcell, hi', ht', tv', hkk⟩ := g.taken hf
    obtain ⟨v, hv, tv⟩ := ro.vars i x t₀ hi ht₀
    have : Var cx.env h x v' := .inr ⟨hkk, c, hc, ci.aft.cell hcell⟩
    cases Var.inj hv this
    exact ⟨hf, i, t₀, _, hi, ht₀, rfl, hv, .inr ⟨kd x hf, c, hcc, ci.aft.cell hcell⟩, tv⟩
  refine { base := ci.base, keep := fun b o e => ⟨o.slots, (hideH_some e).2, fun _ => rfl⟩, ff := ro.ff, ns := ci.ns, cells := ci.cells, sdom := ci.aft.sdom, sok := fun b q => .inl q, sloc := ci.sloc, scell := ci.scell, live := ci.live, clean := fun j x m d hx hj => ?_, hok := ro.hok, vars := fun j x t hx ht => ?_, inj := fun j l x y m m' d d' v hx hy hj hl a b => ?_ }
  · obtain ⟨_, i, t₀, v, hi, ht₀, e, _⟩ := got j x _ hx hj
    cases t₀ with
    | sh d => cases e
    | ow m₀ d₀ => exact g.r.clean i x m₀ d₀ hi ht₀
  · obtain ⟨_, i, t₀, v, hi, ht₀, rfl, _, hv, tv⟩ := got j x t hx ht
    refine ⟨v, hv, ?_⟩
    cases t₀ with
    | sh d => exact tv
    | ow m d => obtain ⟨a, rfl, n1, ow, _⟩ := tv; exact ⟨a, rfl, n1, ow, fun q => by cases q⟩
  · obtain ⟨_, i, t₀, v₁, hi, ht₀, e₁, hv₁, hw₁, _⟩ := got j x _ hx hj
    obtain ⟨_, i', t₀', v₂, hi', ht₀', e₂, hv₂, hw₂, _⟩ := got l y _ hy hl
    cases Var.inj a hw₁
    cases Var.inj b hw₂
    have : i = i' := by
      cases t₀ with
      | sh d => cases e₁
      | ow m₀ d₀ =>
        cases t₀' with
        | sh d => cases e₂
        | ow m₁ d₁ => exact ro.inj i i' x y m₀ m₁ d₀ d₁ _ hi hi' ht₀ ht₀' hv₁ hv₂
    subst this
    rw [hi] at hi'
    cases hi'
    obtain ⟨p1, e1⟩ := List.getElem?_eq_some_iff.mp hx
    obtain ⟨p2, e2⟩ := List.getElem?_eq_some_iff.mp hy
    exact (List.getElem_inj nd').mp (e1.trans e2.symm)
theorem CI.ok (g : CG G cx sc csc ρ₁ S₁ h₁ wr C ρ₀) (ok : CxOk G cx sc k) : CxOk G (cxAt cx csc sc C wr S h) (relabelS csc sc) k := by
  obtain ⟨env, outer, e1, e2⟩ := ok.top
  exact { hsc := rfl, hk := g.kind, hg := ok.hg, hb := ok.hb, fr := ok.fr, top := ⟨env, outer, e1, e2⟩, hd := ok.hd, room := ok.room, nodup := varNames_nodup (by rw [relabelS_fst]; exact g.nodup) }
theorem CI.fn (g : CG G cx sc csc ρ₁ S₁ h₁ wr C ρ₀) (ci : CI G cx sc csc S₁ h₁ wr C S h) : FnCx G (cxAt cx csc sc C wr S h) where
  bh := fun b o e => by
    show (hideH h _).get? b = some o
    rw [hideH_get, if_neg (g.notX (g.r.base b o e) fun m => by rw [(g.new b m).2] at e; cases e)]
    exact ci.base b o e
  lnew := by
    show (hideH h _).get? C = none
    rw [hideH_get, if_pos (List.mem_append.mpr (.inr (.head _)))]
  cap := fun x y c hx hy hn => by
    have own : C < c := by
      rcases g.cellOf hx with ⟨q, _⟩ | ⟨hf, hl, hlt⟩
      · exact q
      · exfalso
        obtain ⟨v, hcell⟩ := g.r.cells x c hl
        have hcell0 := hcell
        obtain ⟨o, e, hd⟩ := hcell0
        have : (hideH h (wr ++ C :: ownA csc cx.env C)).get? c = none := hn
        rw [hideH_get, if_neg (g.notX e fun m => by obtain ⟨o', e', q⟩ := ci.aft.shape c m; rw [e] at e'; cases e'; exact notIterish_cell hd q)] at this
        obtain ⟨o', e', _⟩ := ci.aft.cell hcell
        rw [this] at e'; cases e'
    refine cellsFrom_inj (lo := C + 1) (fun z c' q => ?_) (fun z z' c' hc' q q' => ?_) x y c own hx hy
    · rcases closL_lookup q with q | q
      · obtain ⟨v, o, e, _⟩ := g.r.cells z c' q
        exact Nat.lt_succ_of_lt (Nat.lt_of_lt_of_le (Heap.lt_size e) g.hC)
      · cases q
    · exfalso
      rcases closL_lookup q with q | q
      · obtain ⟨v, o, e, _⟩ := g.r.cells z c' q
        exact absurd (Nat.lt_of_lt_of_le (Heap.lt_size e) g.hC) (Nat.not_lt.mpr (Nat.le_of_succ_le hc'))
      · cases q
  loc := fun x c q => by
    show c ≠ C
    rcases g.cellOf q with ⟨q, _⟩ | ⟨_, _, q⟩
    · exact Nat.ne_of_gt q
    · exact Nat.ne_of_lt (Nat.lt_of_lt_of_le q g.hC)
theorem CI.own (g : CG G cx sc csc ρ₁ S₁ h₁ wr C ρ₀) {x : Str} (hx : csc.names.lookup x = some .local ∨ csc.names.lookup x = some .cell) : OwnName (cxAt cx csc sc C wr S h) (relabelS csc sc) x := by
  unfold OwnName
  rw [lookup_relabelS]
  rcases hx with q | q
  · rw [q]; exact .inl rfl
  · rw [q]
    refine .inr ⟨rfl, ?_⟩
    obtain ⟨c, hc⟩ := Option.isSome_iff_exists.mp (cells_some csc.names (C + 1) (closL cx.env csc.names []) (.inl q))
    refine ⟨c, hc, ?_⟩
    show (hideH h _).get? c = none
    rw [hideH_get, if_pos]
    rcases g.cellOf (x := x) hc with ⟨hlt, _⟩ | ⟨hf, _⟩
    · refine List.mem_append.mpr (.inr (.tail _ ?_))
      unfold ownA
      exact List.mem_map.mpr ⟨(x, c), List.mem_filter.mpr ⟨mem_of_lookup' hc, by simpa using hlt⟩, rfl⟩
    · rw [q] at hf; cases hf
theorem CI.of_rel {ρ' : AEnv} (g : CG G cx sc csc ρ₁ S₁ h₁ wr C ρ₀) (ci : CI G cx sc csc S₁ h₁ wr C S h) (r : Rel G (cxAt cx csc sc C wr S h) (relabelS csc sc) ρ' S' h') (sub : ∀ b, S b → S' b) (dom : ∀ b ∈ wr, ∃ o, h'.get? b = some o) : CI G cx sc csc S₁ h₁ wr C S' h' where
  aft := {
    keep := fun b o hb e => by
      obtain ⟨sl, e₁, k₁⟩ := ci.aft.keep b o hb e
      have : (hideH h (wr ++ C :: ownA csc cx.env C)).get? b = some { o with slots := sl } := by rw [hideH_get, if_neg (g.notX e hb)]; exact e₁
      obtain ⟨sl', e₂, k₂⟩ := r.keep b _ this
      exact ⟨sl', e₂, fun hn => (k₂ hn).trans (k₁ hn)⟩
    dom := dom
    shape := ci.aft.shape
    sub := fun b q => sub b (ci.aft.sub b q)
    new := fun b q => by
      rcases r.sok b q with q | q
      · exact ci.aft.new b q
      · have q : (hideH h (wr ++ C :: ownA csc cx.env C)).get? b = none := q
        rw [hideH_get] at q
        split at q
        · rename_i m
          rcases List.mem_append.mp m with m | m
          · exact .inr (.inl m)
          · exact .inr (.inr (g.xNew m))
        · right; right
          cases q' : h₁.get? b with
          | none => rfl
          | some o => obtain ⟨o', e'⟩ := ci.aft.domAll q'; rw [q] at e'; cases e'
    sdom := r.sdom }
  base := r.base
  ns := r.ns
  cells := r.cells
  sloc := r.sloc
  scell := r.scell
  live := r.live
theorem CI.append {D : Addr} {oD oD' : Obj} {vs : Array Value} {n : Nat} (g : CG G cx sc csc ρ₁ S₁ h₁ wr C ρ₀) (ci : CI G cx sc csc S₁ h₁ wr C S h) (eD : h.get? D = some oD) (hd : oD.data = .seq vs n) (hD : h₁.get? D = none) (kk : Heap.SameBut D h h') (e' : h'.get? D = some oD') : CI G cx sc csc S₁ h₁ wr C S h' := by
  have dom : ∀ b o, h.get? b = some o → ∃ o', h'.get? b = some o' := fun b o e => by
    by_cases hb : b = D
    · subst hb; exact ⟨_, e'⟩
    · exact ⟨o, (kk.2 b hb).trans e⟩
  have hC : C ≠ D := by
    rintro rfl
    obtain ⟨m, o, es, ep, q, hd', _⟩ := ci.ns
    rw [eD] at q; cases q; rw [hd] at hd'; cases hd'
  have hcell : ∀ x c, (compCells csc cx.env C).lookup x = some c → c ≠ D := fun x c q => by
    rintro rfl
    obtain ⟨v, o, q, hd'⟩ := ci.cells x _ q
    rw [eD] at q; cases q; rw [hd] at hd'; cases hd'
  refine { aft := { ci.aft with keep := fun b o hb e => ?_, dom := fun b hb => ?_, sdom := fun b q => ?_ }, base := fun b o q => (kk.2 b ?_).trans (ci.base b o q), ns := ?_, cells := fun x c q => ?_, sloc := ci.sloc, scell := ci.scell, live := fun x a hdx q => ?_ }
  · obtain ⟨sl, q, k₁⟩ := ci.aft.keep b o hb e
    exact ⟨sl, (kk.2 b (by rintro rfl; rw [hD] at e; cases e)).trans q, k₁⟩
  · obtain ⟨o, q⟩ := ci.aft.dom b hb
    exact dom b o q
  · obtain ⟨o, q⟩ := ci.aft.sdom b q
    exact dom b o q
  · rintro rfl
    rw [g.r.base _ _ q] at hD; cases hD
  · obtain ⟨m, n⟩ := ci.ns
    exact ⟨m, n.sameBut kk hC⟩
  · obtain ⟨v, n⟩ := ci.cells x c q
    exact ⟨v, n.sameBut kk (hcell x c q)⟩
  · have : Var (compE csc sc cx.env C) h x (.ref a) := by
      rcases q with ⟨a1, m₁, b, c⟩ | ⟨a1, c, b, d⟩
      · obtain ⟨m₀, n₀⟩ := ci.ns
        exact .inl ⟨a1, m₀, n₀, by rw [(n₀.sameBut kk hC).agree b x]; exact c⟩
      · obtain ⟨w₀, n₀⟩ := ci.cells x c b
        exact .inr ⟨a1, c, b, by rw [IsCell.inj d (n₀.sameBut kk (hcell x c b))]; exact n₀⟩
    obtain ⟨o, e⟩ := ci.live x a hdx this
    exact dom a o e
end
end Mine
end

section
set_option Elab.async false
set_option maxRecDepth 100000
namespace Mine
open PySem PyProof.Rows
theorem compLoop_any {prog : Program} {w : World} {A : Around} {R : Result → Shared → Prop} {s : Shared} {elt target iter : Expr} {ifs : List Expr} {scope : Scope} {pos : Pos} {it acc : Value} {env : Env} (I : Nat → Shared → Prop)
    (turn : ∀ n s, I n s → wpAny (model prog w) A (pyNext it) (fun r s₁ => match r with
      | none => R (.ok .next) s₁
      | some v => wpAny (model prog w) A (letOwnedTupleGo target it v) (fun _ s₁' => wpAny (model prog w) A (assign target env v) (fun _ s₂ =>
          wpAny (model prog w) A (forIn ifs true fun c r => if r = true then do let ok ← isTrue c env (eval c env); pure (ForInStep.yield ok) else pure (ForInStep.yield r)) (fun ok s₃ =>
            if ok = true then wpAny (model prog w) A (eval elt env) (fun x s₄ =>
              wpAny (model prog w) A (call (.builtin "list.append") [acc, x]) (fun _ s₅ => ∃ m, m < n ∧ I m s₅) (notedBy (model prog w) A env fun e s' => R (.error e) s') s₄) (notedBy (model prog w) A env fun e s' => R (.error e) s') s₃
            else ∃ m, m < n ∧ I m s₃) (notedBy (model prog w) A env fun e s' => R (.error e) s') s₂) (notedBy (model prog w) A env fun e s' => R (.error e) s') s₁') (notedBy (model prog w) A env fun e s' => R (.error e) s') s₁) (notedBy (model prog w) A env fun e s' => R (.error e) s') s)
    (n : Nat) (h : I n s) : codeAny (model prog w) A (.compLoop (.ListComp elt [⟨target, iter, ifs, 0⟩] scope pos) 0 it acc env) R s := by
  refine codeAny_loop rfl I (fun n s hI => ?_) n h
  show wpAny _ A ((compTurn (.ListComp elt [⟨target, iter, ifs, 0⟩] scope pos) 0 it acc env).onRaise (fun x => do noteFrame x env; theTreesLotGoes x)) _ _ s
  refine wpAny_noted ?_
  rw [compTurn_list]
  refine wpAny_bind (wpAny_standAt (wpAny_bind (wpAny_mono (turn n s hI) (fun r s₁ h₁ => ?_) fun _ _ h' => h')))
  cases r with
  | none => exact wpAny_pure h₁
  | some v =>
    refine wpAny_bind (wpAny_mono h₁ (fun _ s₁' h₁' => ?_) fun _ _ h' => h')
    refine wpAny_bind (wpAny_mono h₁' (fun _ s₂ h₂ => wpAny_bind (wpAny_mono h₂ (fun ok s₃ h₃ => ?_) fun _ _ h' => h')) fun _ _ h' => h')
    cases ok with
    | false => exact wpAny_pure ⟨rfl, h₃⟩
    | true =>
      exact wpAny_bind (wpAny_bind (wpAny_mono h₃ (fun x s₄ h₄ => wpAny_bind (wpAny_mono h₄ (fun _ s₅ h₅ => wpAny_pure (wpAny_pure ⟨rfl, h₅⟩)) fun _ _ h' => h')) fun _ _ h' => h'))
noncomputable def SimTF (G : Gd) (k : Nat) (sc : Scope) (ifs : List Expr) (f : AEnv → Res Bool) : Prop :=
  ∀ cx, CxOk G cx sc k → ∀ ρ S s, Rel G cx sc ρ S s.heap → Does G cx sc true (forIn ifs true fun c r => if r = true then do let ok ← isTrue c cx.env (eval c cx.env); pure (ForInStep.yield ok) else pure (ForInStep.yield r)) S s (fun _ _ a b => a = b) (f ρ)
noncomputable def eAll : AEnv → Res Bool := fun ρ => .ok true ρ
theorem simTF_nil {G : Gd} {k : Nat} {sc : Scope} : SimTF G k sc [] eAll := fun _ _ _ _ _ r => Does.pure r rfl
theorem simTF_one {G : Gd} {k : Nat} {sc : Scope} {c : Expr} {f : AEnv → Res Bool} (h : SimT G k sc c f) : SimTF G k sc [c] f := fun cx ok ρ S s r Q E out => wpAny_tests_one (h cx ok ρ S s r Q E out)
noncomputable def compN (b : D → AEnv → Option AEnv) (t : AEnv → Res Bool) (f : AEnv → Res T) (ρ₀ : AEnv) : List D → List D → Option (List D)
  | [], acc => some acc
  | d :: ds, acc => match b d ρ₀ with
    | none => none
    | some ρ₁ => match t ρ₁ with
      | .ok true ρ₂ => (match f ρ₂ with
        | .ok v _ => if acc.length ≤ 1000000 then compN b t f ρ₀ ds (acc ++ [v.val]) else none
        | _ => none)
      | .ok false _ => compN b t f ρ₀ ds acc
      | _ => none
theorem After.ext {X : List Addr} {S₀ S S' : Addr → Prop} {h₀ h h' : Heap} (k : After X S h S' h') (x : Ext S₀ h₀ S h) (new : ∀ b ∈ X, h₀.get? b = none) : Ext S₀ h₀ S' h' :=
  ⟨fun b q => k.sub b (x.sub b q), fun b o e q => by
    obtain ⟨sl, e₁, k₁⟩ := x.keep b o e q
    obtain ⟨sl', e₂, k₂⟩ := k.keep b _ (fun m => by rw [new b m] at e; cases e) e₁
    exact ⟨sl', e₂, fun hn => (k₂ hn).trans (k₁ hn)⟩, fun b o e => by
    obtain ⟨o', e'⟩ := x.dom b o e
    exact k.domAll e'⟩
section
variable {G : Gd} {cx : Cx} {sc csc : Scope} {ρ₁ ρ₀ : AEnv} {S₁ S : Addr → Prop} {h₁ : Heap} {wr : List Addr} {C L : Addr} {k : Nat}
theorem comp_loop {tg iter elt : Expr} {ifs : List Expr} {pos : Pos} {I : Addr} {St : Nat → (Addr → Prop) → Heap → Prop} {ds out : List D} {xs : List Str} {b : D → AEnv → Option AEnv} {t : AEnv → Res Bool} {f : AEnv → Res T} {R : Result → Shared → Prop} {s : Shared} {n : Nat}
    (g : CG G cx sc csc ρ₁ S₁ h₁ wr C ρ₀) (ok : CxOk G cx sc k) (it : ItK G cx.A tg I wr St ds) (ha : SimA G (relabelS csc sc) tg xs b) (hxs : ∀ x ∈ xs, csc.names.lookup x = some .local ∨ csc.names.lookup x = some .cell)
    (ht : SimTF G k (relabelS csc sc) ifs t) (he : Sim G k (relabelS csc sc) elt f) (ci : CI G cx sc csc S₁ h₁ wr C S s.heap) (eD : s.heap.get? L = some { cls := .type "list", data := .seq #[] n }) (hD : h₁.get? L = none) (hLC : L < C) (hS : ¬ S L) (st : St 0 S s.heap)
    (hni : ∀ v, cx.A.handled = some v → ∀ b ∈ wr, v ≠ .ref b) (hc : compN b t f ρ₀ ds [] = some out)
    (fin : ∀ S' h' tk, CI G cx sc csc S₁ h₁ wr C S' h' → OwnAt S' h' L (.list out) → ¬ S' L → R (.ok .next) { s with heap := h', toks := tk }) :
    codeAny G.M cx.A (.compLoop (.ListComp elt [⟨tg, iter, ifs, 0⟩] csc pos) 0 (.ref I) (.ref L) (compE csc sc cx.env C)) R s := by
  have hLX : L ∉ wr ++ C :: ownA csc cx.env C := fun m => by
    rcases List.mem_append.mp m with m | m
    · obtain ⟨o, e, _⟩ := ci.aft.shape L m; rw [hD] at e; cases e
    · rcases List.mem_cons.mp m with rfl | m
      · exact absurd hLC (Nat.lt_irrefl _)
      · unfold ownA at m
        obtain ⟨p, hp, rfl⟩ := List.mem_map.mp m
        have := (List.mem_filter.mp hp).2
        simp only [decide_eq_true_eq] at this
        exact absurd hLC (Nat.not_lt.mpr (Nat.le_of_lt this))
  have hLw : L ∉ wr := fun m => hLX (List.mem_append.mpr (.inl m))
  refine compLoop_any (fun m s' => ∃ i S' h' tk acc vs n, m = ds.length + 1 - i ∧ i ≤ ds.length ∧ s' = { s with heap := h', toks := tk } ∧ CI G cx sc csc S₁ h₁ wr C S' h' ∧ St i S' h' ∧ h'.get? L = some { cls := .type "list", data := .seq vs n } ∧ RVs S' h' vs.toList acc ∧ ¬ S' L ∧ compN b t f ρ₀ (ds.drop i) acc = some out) ?_ (ds.length + 1)
    ⟨0, S, s.heap, s.toks, [], #[], n, rfl, Nat.zero_le _, rfl, ci, st, eD, .nil, hS, by rw [List.drop_zero]; exact hc⟩
  rintro m s' ⟨i, S', h', tk, acc, vs, n', rfl, hi, rfl, ci', st', eL, racc, hSL, hcn⟩
  have r' := ci'.rel g
  have new' : ∀ b ∈ wr, (cxAt cx csc sc C wr S' h').h₀.get? b = none ∧ G.B.get? b = none := fun b hb => ⟨by
    show (hideH h' _).get? b = none
    rw [hideH_get, if_pos (List.mem_append.mpr (.inl hb))], (g.new b hb).2⟩
  by_cases hlt : i < ds.length
  · have hd : ds[i]? = some ds[i] := List.getElem?_eq_getElem hlt
    rw [drop_cons_of hd, compN] at hcn
    split at hcn
    · cases hcn
    rename_i ρ₂ hb
    refine wpAny_mono (it.item i S' { s with heap := h', toks := tk } ds[i] (fun v s₂ => wpAny G.M cx.A (assign tg (compE csc sc cx.env C) v) (fun _ s₂ =>
          wpAny G.M cx.A (forIn ifs true fun c r => if r = true then do let ok ← isTrue c (compE csc sc cx.env C) (eval c (compE csc sc cx.env C)); pure (ForInStep.yield ok) else pure (ForInStep.yield r)) (fun ok s₃ =>
            if ok = true then wpAny G.M cx.A (eval elt (compE csc sc cx.env C)) (fun x s₄ =>
              wpAny G.M cx.A (call (.builtin "list.append") [.ref L, x]) (fun _ s₅ => ∃ m, m < ds.length + 1 - i ∧ ∃ i S' h' tk acc vs n, m = ds.length + 1 - i ∧ i ≤ ds.length ∧ s₅ = { s with heap := h', toks := tk } ∧ CI G cx sc csc S₁ h₁ wr C S' h' ∧ St i S' h' ∧ h'.get? L = some { cls := .type "list", data := .seq vs n } ∧ RVs S' h' vs.toList acc ∧ ¬ S' L ∧ compN b t f ρ₀ (ds.drop i) acc = some out) (notedBy G.M cx.A (compE csc sc cx.env C) fun e s' => R (.error e) s') s₄) (notedBy G.M cx.A (compE csc sc cx.env C) fun e s' => R (.error e) s') s₃
            else ∃ m, m < ds.length + 1 - i ∧ ∃ i S' h' tk acc vs n, m = ds.length + 1 - i ∧ i ≤ ds.length ∧ s₃ = { s with heap := h', toks := tk } ∧ CI G cx sc csc S₁ h₁ wr C S' h' ∧ St i S' h' ∧ h'.get? L = some { cls := .type "list", data := .seq vs n } ∧ RVs S' h' vs.toList acc ∧ ¬ S' L ∧ compN b t f ρ₀ (ds.drop i) acc = some out) (notedBy G.M cx.A (compE csc sc cx.env C) fun e s' => R (.error e) s') s₂) (notedBy G.M cx.A (compE csc sc cx.env C) fun e s' => R (.error e) s') s₂) _ (notedBy G.M cx.A (compE csc sc cx.env C) fun e s' => R (.error e) s') hd st' fun v h₂ t₂ rv st₂ kb => ?_) (fun rr s₁ hh => by
      obtain ⟨v, rfl, hh⟩ := hh
      exact hh) fun _ _ e => e
    obtain ⟨r₂, v₂⟩ := r'.aside (it.shape i S' h' st') new' kb
    have ok' : CxOk G (cxAt cx csc sc C wr S' h') (relabelS csc sc) k := CI.ok g ok
    refine ha (cxAt cx csc sc C wr S' h') k ok' (CI.fn g ci') (fun x hx => CI.own g (hxs x hx)) ρ₀ S' { s with heap := h₂, toks := t₂ } v ds[i] ρ₂ r₂ rv hb _ _ ?_
    intro _ h₃ t₃ S₃ r₃ _ x₃ _
    have st₃ := it.ext _ _ _ _ _ st₂ x₃
    have racc₃ : RVs S₃ h₃ vs.toList acc := (racc.aside (it.shape i S' h' st') kb).ext x₃
    refine ht (cxAt cx csc sc C wr S' h') ok' ρ₂ S₃ { s with heap := h₃, toks := t₃ } r₃ _ _ ?_
    have done : ∀ {ρ' S'' h''}, Rel G (cxAt cx csc sc C wr S' h') (relabelS csc sc) ρ' S'' h'' → (∀ b, S' b → S'' b) → St (i + 1) S'' h'' → CI G cx sc csc S₁ h₁ wr C S'' h'' ∧ h''.get? L = some { cls := .type "list", data := .seq vs n' } ∧ ¬ S'' L := fun {ρ' S'' h''} r sub st => by
      refine ⟨CI.of_rel g ci' r sub fun b hb => let ⟨o, e, _⟩ := it.shape _ _ _ st b hb; ⟨o, e⟩, ?_, fun q => ?_⟩
      · have : (hideH h' (wr ++ C :: ownA csc cx.env C)).get? L = some { cls := .type "list", data := .seq vs n' } := by rw [hideH_get, if_neg hLX]; exact eL
        exact r.keep.exact this (.seq rfl)
      · rcases r.sok L q with q | q
        · exact hSL q
        · have q : (hideH h' (wr ++ C :: ownA csc cx.env C)).get? L = none := q
          rw [hideH_get, if_neg hLX, eL] at q; cases q
    split at hcn
    · rename_i ρ₃ htv
      rw [htv]
      intro a h₄ t₄ S₄ r₄ j₄ x₄ _
      subst j₄
      simp only [if_true]
      have st₄ := it.ext _ _ _ _ _ st₃ x₄
      split at hcn
      · rename_i v' ρ₄ hfv
        split at hcn
        · rename_i hlen
          refine (he (cxAt cx csc sc C wr S' h') ok' ρ₃ S₄ { s with heap := h₄, toks := t₄ } r₄).shared _ _ ?_
          rw [hfv]
          intro y h₅ t₅ S₅ r₅ j₅ x₅ _
          have st₅ := it.ext _ _ _ _ _ st₄ x₅
          have racc₅ : RVs S₅ h₅ vs.toList acc := (racc₃.ext x₄).ext x₅
          obtain ⟨ci₅, eL₅, hS₅⟩ := done r₅ (fun b q => x₅.sub b (x₄.sub b (x₃.sub b q))) st₅
          have hvl : vs.size = acc.length := by rw [← racc.length]; simp
          refine call_meets F.slot_list_append ⟨_, eL₅, rfl⟩ F.entry_list_append (F.args_list_append_2 _ _) (list_append L vs n' y (by rw [hvl, sizeLine_eq]; omega)) ⟨eL₅, ?_⟩
          obtain ⟨m', hm'⟩ := seq_update (fun xs => xs.push y) eL₅
          have sb : Heap.SameBut L h₅ (h₅.update L (Obj.mapSeq fun xs => xs.push y)) := Heap.SameBut.update ..
          have x₆ : Ext S₅ h₅ S₅ (h₅.update L (Obj.mapSeq fun xs => xs.push y)) := RV.but eL₅ notImm_list hS₅ (fun b o hb eb => (sb.2 b hb).trans eb) ⟨_, hm'⟩
          refine ⟨ds.length + 1 - (i + 1), by omega, i + 1, S₅, _, t₅, acc ++ [v'.val], vs.push y, m', rfl, hlt, rfl, CI.append g ci₅ eL₅ rfl hD sb hm', it.ext _ _ _ _ _ st₅ x₆, hm', ?_, hS₅, hcn⟩
          rw [Array.toList_push]
          exact RVs.append (.cons (RV.ext x₆ j₅) .nil) (racc₅.ext x₆)
        · cases hcn
      · cases hcn
    · rename_i ρ₃ htv
      rw [htv]
      intro a h₄ t₄ S₄ r₄ j₄ x₄ _
      subst j₄
      simp only [Bool.false_eq_true, if_false]
      have st₄ := it.ext _ _ _ _ _ st₃ x₄
      obtain ⟨ci₄, eL₄, hS₄⟩ := done r₄ (fun b q => x₄.sub b (x₃.sub b q)) st₄
      exact ⟨ds.length + 1 - (i + 1), by omega, i + 1, S₄, h₄, t₄, acc, vs, n', rfl, hlt, rfl, ci₄, st₄, eL₄, racc₃.ext x₄, hS₄, hcn⟩
    · cases hcn
  · have hie : i = ds.length := by omega
    subst hie
    rw [List.drop_length, compN] at hcn
    cases hcn
    refine it.done S' { s with heap := h', toks := tk } _ _ st' r'.hOk hni fun h₂ t₂ kb => ?_
    have sh := it.shape _ S' h' st'
    obtain ⟨r₂, v₂⟩ := r'.aside sh new' kb
    refine fin S' h₂ t₂ (CI.of_rel g ci' r₂ (fun _ q => q) kb.2) ⟨vs, n', kb.1 L _ hLw eL, racc.aside sh kb⟩ hSL
end
end Mine
end

section
set_option Elab.async false
set_option maxRecDepth 100000
namespace Mine
open PySem PyProof.Rows
theorem cellsFrom_cell : ∀ {l : List (Str × NameKind)} {h : Heap} {acc : List (Str × Addr)} {x : Str} {c : Addr}, (cellsFrom h.objs.size l acc).lookup x = some c → (∃ c', acc.lookup x = some c' ∧ c' = c) ∨ ((pushCells h l).IsCell c none ∧ h.objs.size ≤ c)
  | [], _, _, _, _, q => .inl ⟨_, q, rfl⟩
  | (y, k) :: r, h, acc, x, c, q => by
    unfold cellsFrom at q
    unfold pushCells
    split at q
    · rename_i hk
      rw [if_pos hk]
      rw [show h.objs.size + 1 = (h.push { cls := .type "cell", data := .cell none }).objs.size from (Heap.size_push ..).symm] at q
      rcases cellsFrom_cell q with ⟨c', q', rfl⟩ | ⟨q', hl⟩
      · rw [List.lookup_cons] at q'
        cases hx : x == y with
        | true =>
          rw [hx] at q'; cases q'
          exact .inr ⟨⟨_, pushCells_keeps _ _ _ _ (Heap.get?_push_size _ rfl), rfl⟩, Nat.le_refl _⟩
        | false => rw [hx] at q'; exact .inl ⟨_, q', rfl⟩
      · rw [Heap.size_push] at hl
        exact .inr ⟨q', Nat.le_of_succ_le hl⟩
    · rename_i hk
      rw [if_neg hk]
      exact cellsFrom_cell q
section
variable {G : Gd} {cx : Cx} {sc csc : Scope} {ρ₁ ρ₀ : AEnv} {S₁ : Addr → Prop} {h₁ : Heap} {wr : List Addr} {k : Nat}
noncomputable def compHeap (h₁ : Heap) (csc : Scope) : Heap := pushCells ((h₁.push { cls := .type "list", data := .seq ([] : List Value).toArray }).push { cls := .type "dict", data := .dict #[] }) csc.names
theorem compHeap_keeps {b : Addr} {o : Obj} (e : h₁.get? b = some o) : (compHeap h₁ csc).get? b = some o := pushCells_keeps _ _ _ _ (Heap.get?_push_of_some _ (Heap.get?_push_of_some _ e))
theorem CI.init (g : CG G cx sc csc ρ₁ S₁ h₁ wr (h₁.objs.size + 1) ρ₀) (sh : ∀ b ∈ wr, ∃ o, h₁.get? b = some o ∧ Iterish o) : CI G cx sc csc S₁ h₁ wr (h₁.objs.size + 1) S₁ (compHeap h₁ csc) := by
  have hs : ((h₁.push { cls := .type "list", data := .seq ([] : List Value).toArray }).push { cls := .type "dict", data := .dict #[] }).objs.size = h₁.objs.size + 1 + 1 := by rw [Heap.size_push, Heap.size_push]
  have ns : (compHeap h₁ csc).Ns (h₁.objs.size + 1) fun _ => none := by
    have := (Heap.Ns.new (h₁.push { cls := .type "list", data := .seq ([] : List Value).toArray }) (.type "dict")).keeps (pushCells_keeps csc.names _)
    rw [Heap.size_push] at this
    exact this
  have cell : ∀ x c, (compCells csc cx.env (h₁.objs.size + 1)).lookup x = some c → (csc.names.lookup x = some .free ∧ cx.env.cells.lookup x = some c) ∨ ((compHeap h₁ csc).IsCell c none ∧ h₁.objs.size + 2 ≤ c) := fun x c q => by
    rcases g.cellOf q with ⟨hc, _⟩ | ⟨a, b, _⟩
    · unfold compCells at q
      rw [← hs] at q
      rcases cellsFrom_cell q with ⟨c', q', rfl⟩ | ⟨q', hl⟩
      · rcases closL_lookup q' with q' | q'
        · obtain ⟨v, o, e, _⟩ := g.r.cells x c' q'
          exact absurd (Heap.lt_size e) (Nat.not_lt.mpr (Nat.le_of_lt (Nat.lt_of_succ_lt hc)))
        · cases q'
      · rw [hs] at hl; exact .inr ⟨q', hl⟩
    · exact .inl ⟨a, b⟩
  refine { aft := ⟨fun b o _ e => ⟨o.slots, compHeap_keeps e, fun _ => rfl⟩, fun b hb => let ⟨o, e, _⟩ := sh b hb; ⟨o, compHeap_keeps e⟩, sh, fun _ q => q, fun b q => .inl q, fun b q => let ⟨o, e⟩ := g.r.sdom b q; ⟨o, compHeap_keeps e⟩⟩, base := fun b o e => compHeap_keeps (g.r.base b o e), ns := ⟨_, ns⟩, cells := fun x c q => ?_, sloc := fun q => ?_, scell := fun x c q q' => ?_, live := fun x a hd q => ?_ }
  · rcases cell x c q with ⟨_, q⟩ | ⟨q, _⟩
    · obtain ⟨v, o, e, hd⟩ := g.r.cells x c q
      exact ⟨v, o, compHeap_keeps e, hd⟩
    · exact ⟨_, q⟩
  · obtain ⟨o, e⟩ := g.r.sdom _ q
    exact absurd (Heap.lt_size e) (Nat.not_lt.mpr (Nat.le_succ _))
  · rcases cell x c q with ⟨_, q⟩ | ⟨_, hl⟩
    · exact g.r.scell x c q q'
    · obtain ⟨o, e⟩ := g.r.sdom _ q'
      exact absurd (Heap.lt_size e) (Nat.not_lt.mpr (Nat.le_of_succ_le (Nat.le_of_succ_le hl)))
  · rcases q with ⟨a1, m, n, e⟩ | ⟨a1, c, q, n⟩
    · have := ns.agree n x; rw [e] at this; cases this
    · rcases cell x c q with ⟨hf, hl⟩ | ⟨q', _⟩
      · obtain ⟨v, n₀⟩ := g.r.cells x c hl
        have n₁ : (compHeap h₁ csc).IsCell c v := n₀.keeps fun b o e => compHeap_keeps e
        cases IsCell.inj n n₁
        obtain ⟨_, hk⟩ := g.free (mem_of_lookup' hf)
        have hkk : cx.env.kindOf x = sc.names.lookup x := by unfold Env.kindOf; rw [g.hsc]
        obtain ⟨o, e⟩ := g.r.live x a hd (.inr ⟨by rw [hkk]; exact hk, c, hl, n₀⟩)
        exact ⟨o, compHeap_keeps e⟩
      · cases IsCell.inj n q'
end
noncomputable def eComp (sc csc : Scope) (src : AEnv → Res (List D)) (b : D → AEnv → Option AEnv) (t : AEnv → Res Bool) (f : AEnv → Res T) : AEnv → Res T := fun ρ => match capL sc csc ρ (varNames (relabelS csc sc)) with
  | none => .stuck
  | some _ => match src ρ with
    | .ok ds ρ₁ => (match capL sc csc ρ₁ (varNames (relabelS csc sc)) with
      | some ρ₀ => (match compN b t f ρ₀ ds [] with
        | some out => .ok (.ow true (.list out)) ρ₁
        | none => .stuck)
      | none => .stuck)
    | _ => .stuck
theorem eComp_ok {sc csc : Scope} {src : AEnv → Res (List D)} {b : D → AEnv → Option AEnv} {t : AEnv → Res Bool} {f : AEnv → Res T} {ρ : AEnv} (h : eComp sc csc src b t f ρ ≠ .stuck) :
    ∃ ρ' ds ρ₁ ρ₀ out, capL sc csc ρ (varNames (relabelS csc sc)) = some ρ' ∧ src ρ = .ok ds ρ₁ ∧ capL sc csc ρ₁ (varNames (relabelS csc sc)) = some ρ₀ ∧ compN b t f ρ₀ ds [] = some out ∧ eComp sc csc src b t f ρ = .ok (.ow true (.list out)) ρ₁ := by
  unfold eComp at h ⊢
  split at h
  · exact absurd rfl h
  · rename_i ρ' h1
    split at h
    · rename_i ds ρ₁ h2
      split at h
      · rename_i ρ₀ h3
        split at h
        · rename_i out h4
          exact ⟨ρ', ds, ρ₁, ρ₀, out, h1, h2, h3, h4, rfl⟩
        · exact absurd rfl h
      · exact absurd rfl h
    · exact absurd rfl h
theorem storeL {G : Gd} {cx : Cx} {sc : Scope} {ρ : AEnv} {S : Addr → Prop} {i : Nat} {x : Str} {v : Value} {t : T} {s : Shared} {E : Value → Shared → Prop} {Q : Unit → Shared → Prop} (ok : CxOk G cx sc 0) (fn : FnCx G cx) (r : Rel G cx sc ρ S s.heap) (hx : (varNames sc)[i]? = some x) (hk : sc.names.lookup x = some .local) (hcl : isDirty x = false ∨ ∃ d, t = .sh d) (tv : TTmp cx S s.heap v t)
    (hQ : ∀ h' tk, Rel G cx sc (ρ.set i (some t)) S h' → Ext S s.heap S h' → Heap.SameBut cx.env.locals s.heap h' → Q () { s with heap := h', toks := tk }) : wpAny G.M cx.A (storeName cx.env x v) Q E s := by
  have hkf : cx.env.scope.kind = .function := by rw [ok.hsc]; exact ok.hk
  have kd : ∀ y, cx.env.kindOf y = sc.names.lookup y := fun y => by unfold Env.kindOf; rw [ok.hsc]
  obtain ⟨m, hm⟩ := r.ns
  have hm0 := hm
  obtain ⟨oL, es, ep, eL, dL, _⟩ := hm0
  refine wpAny_storeName_local ((kd x).trans hk) hm (fun h' n' k => ?_) (by rw [hkf]; rfl)
  have n'' := n'
  obtain ⟨oL', es', ep', eL', dL', _⟩ := n''
  have cellsame : ∀ y c, cx.env.cells.lookup y = some c → ∀ w, s.heap.IsCell c w → h'.IsCell c w := fun y c q w n => n.sameBut k (fn.loc y c q)
  have vx : Var cx.env h' x v := .inl ⟨(kd x).trans hk, _, n', by simp⟩
  obtain ⟨r', x'⟩ := r.store (loc := cx.env.locals) (i := i) (x := x) (v := v) (t := t) fn.bh ok.nodup hx eL (by rintro (⟨_, vs, n, q⟩ | ⟨vs, q⟩) <;> (rw [dL] at q; cases q)) (fun vs n q => by rw [dL] at q; cases q) r.sloc fn.lnew k
    ⟨oL', eL', fun _ => ⟨es', ep', dL'⟩⟩ ⟨_, n'⟩ (fun y c q => let ⟨w, n⟩ := r.cells y c q; ⟨w, cellsame y c q w n⟩) vx
    (fun y w hy q => by
      rcases q with ⟨a, m₁, b, c⟩ | ⟨a, c, b, d⟩
      · refine .inl ⟨a, _, n', ?_⟩
        rw [if_neg hy, ← b.agree hm y]; exact c
      · exact .inr ⟨a, c, b, cellsame y c b _ d⟩)
    (fun y w hy q => by
      rcases q with ⟨a, m₁, b, c⟩ | ⟨a, c, b, d⟩
      · refine .inl ⟨a, m, hm, ?_⟩
        have := b.agree n' y
        rw [if_neg hy] at this
        rw [← this]; exact c
      · obtain ⟨w₀, n₀⟩ := r.cells y c b
        exact .inr ⟨a, c, b, by rw [IsCell.inj d (cellsame y c b _ n₀)]; exact n₀⟩) hcl tv
  exact hQ h' _ r' x' k
theorem Rel.butDict {G : Gd} {cx : Cx} {sc : Scope} {ρ : AEnv} {S : Addr → Prop} {h h' : Heap} {C : Addr} {oC : Obj} {es : Array DictEntry} {ep : Nat} (r : Rel G cx sc ρ S h) (e : h.get? C = some oC) (hd : oC.data = .dict es ep) (hS : ¬ S C) (hl : C ≠ cx.env.locals) (h0 : cx.h₀.get? C = none) (hB : G.B.get? C = none) (hff : ∀ env ∈ cx.fs, env.frame ≠ some C) (k : Heap.SameBut C h h') (e' : ∃ o, h'.get? C = some o) :
    Rel G cx sc ρ S h' ∧ Ext S h S h' ∧ VarSame cx.env h h' ∧ (∀ y w, Var cx.env h' y w → Var cx.env h y w) := by
  have hi : ¬ Imm oC := by rintro (⟨_, vs, n, q⟩ | ⟨vs, q⟩) <;> (rw [hd] at q; cases q)
  have x' : Ext S h S h' := RV.but e hi hS (fun b o hb eb => (k.2 b hb).trans eb) e'
  have nsame : ∀ m, h.Ns cx.env.locals m → h'.Ns cx.env.locals m := fun m n => n.sameBut k (Ne.symm hl)
  have cne : ∀ y c, cx.env.cells.lookup y = some c → c ≠ C := fun y c q => by
    rintro rfl
    obtain ⟨v, o, e'', hd'⟩ := r.cells y _ q
    rw [e] at e''; cases e''; rw [hd] at hd'; cases hd'
  have csame : ∀ y c, cx.env.cells.lookup y = some c → ∀ w, h.IsCell c w → h'.IsCell c w := fun y c q w n => n.sameBut k (cne y c q)
  have same : VarSame cx.env h h' := fun y w q => by
    rcases q with ⟨a, m₁, b, c⟩ | ⟨a, c, b, d⟩
    · exact .inl ⟨a, m₁, nsame m₁ b, c⟩
    · exact .inr ⟨a, c, b, csame y c b _ d⟩
  have hf : ∀ y w, Var cx.env h' y w → Var cx.env h y w := fun y w q => by
    rcases q with ⟨a, m₁, b, c⟩ | ⟨a, c, b, d⟩
    · obtain ⟨m₀, n₀⟩ := r.ns
      exact .inl ⟨a, m₀, n₀, by rw [(nsame m₀ n₀).agree b y]; exact c⟩
    · obtain ⟨w₀, n₀⟩ := r.cells y c b
      exact .inr ⟨a, c, b, by rw [IsCell.inj d (csame y c b _ n₀)]; exact n₀⟩
  refine ⟨⟨fun b o q => (k.2 b (by rintro rfl; rw [hB] at q; cases q)).trans (r.base b o q), fun b o q => ?_, fun env he => ?_, let ⟨m, n⟩ := r.ns; ⟨m, nsame m n⟩, fun y c q => let ⟨w, n⟩ := r.cells y c q; ⟨w, csame y c q w n⟩, fun b q => let ⟨o, eo⟩ := r.sdom b q; x'.dom b o eo, r.sok, r.sloc, r.scell, fun y b hdy q => let ⟨o, eo⟩ := r.live y b hdy (hf y _ q); x'.dom b o eo, r.clean, fun v q => let ⟨C, e⟩ := r.hok v q; ⟨C, e.ext x'⟩, fun j y u hy hu => ?_, fun j l y z m m' d d' u hy hz hj hl a b => r.inj j l y z m m' d d' u hy hz hj hl (hf y _ a) (hf z _ b)⟩, x', same, hf⟩
  · obtain ⟨sl, q₁, k₁⟩ := r.keep b o q
    exact ⟨sl, (k.2 b (by rintro rfl; rw [h0] at q; cases q)).trans q₁, k₁⟩
  · obtain ⟨p, L, o, b, c, d, es, n, q⟩ := r.ff env he
    exact ⟨p, L, o, b, c, (k.2 L (by rintro rfl; exact hff env he b)).trans d, es, n, q⟩
  · obtain ⟨w, hw', tw⟩ := r.vars j y u hy hu
    refine ⟨w, same y w hw', ?_⟩
    cases u with
    | sh d => exact RV.ext x' tw
    | ow m d =>
      obtain ⟨b, rfl, n1, ow, n2⟩ := tw
      refine ⟨b, rfl, n1, ow.ext x' fun o eo => (k.2 b ?_).trans eo, n2⟩
      rintro rfl
      obtain ⟨o', ho', _, vs, n, hd'⟩ := ow.cls
      rw [e] at ho'; cases ho'; rw [hd] at hd'; cases hd'
noncomputable def CPost (M : Model) (A : Around) (E : Value → Shared → Prop) (use : Option (Value → Sem Unit)) (Q : Value → Shared → Prop) (acc : Value) (C : Addr) (r : Result) (s' : Shared) : Prop := match r, use with
  | .ok _, none => ∃ m, s'.heap.Ns C m ∧ ∀ h' m', h'.Ns C m' → Heap.SameBut C s'.heap h' → Q acc { s' with heap := h' }
  | .ok _, some u => wpAny M A (u acc) (fun _ s'' => ∃ m, s''.heap.Ns C m ∧ ∀ h' m', h'.Ns C m' → Heap.SameBut C s''.heap h' → Q .none { s'' with heap := h' }) E s'
  | .error _, _ => False
theorem wp_comprehension {M : Model} {A : Around} {E : Value → Shared → Prop} {s : Shared} {env : Env} {e : Expr} {scope : Scope} {pos : Pos} {newAcc first : Sem Value} {g : Comprehension} {gs : List Comprehension} {cl : List (Str × Addr)} {use : Option (Value → Sem Unit)} {Q : Value → Shared → Prop}
    (hcl : clausesOf e = g :: gs) (hs : ∀ x, foldedSetIterable g.iter env x = pure x) (hclos : closureFor scope env = pure cl) (hkind : scope.kind = .function) (hnames : ∀ x ∈ scope.names, x.2 = .local → scope.names.lookup x.1 = some .local)
    (h : wpAny M A first (fun x s₁ => wpAny M A (pyIter x) (fun it s₂ => wpAny M A newAcc (fun acc s₃ => wpAny M A (newFunctionEnv scope env.globals cl [] env.qual none .none (some env)) (fun cenv s₄ =>
      codeAny M A (.compStart e 0 it acc { cenv with scope := relabel scope env }) (CPost M A E use Q acc cenv.locals) s₄) E s₃) E s₂) E s₁) E s) :
    wpAny M A (comprehension e scope env pos newAcc false first use) Q E s := by
  unfold comprehension
  rw [hclos, hcl]
  refine wpAny_bind (wpAny_mono h (fun x s₁ h₁ => wpAny_bind (wpAny_standAt (wpAny_bind (wpAny_of_eq (hs x) (wpAny_bind (wpAny_holding (wpAny_mono h₁ (fun it s₂ h₂ => wpAny_standIf (wpAny_bind (wpAny_mono h₂ (fun acc s₃ h₃ => wpAny_bind (wpAny_pure (wpAny_bind (wpAny_mono h₃ (fun cenv s₄ h₄ => ?_) fun _ _ z => z)))) fun _ _ z => z))) fun _ _ z => z))))))) fun _ _ z => z)
  dsimp only
  have loc : ∀ x : Str × NameKind, x ∈ scope.names → x.2 = .local → Env.kindOf { cenv with scope := relabel scope env } x.1 = some .local := fun x hx hl => lookup_relabel_local (hnames x hx hl)
  have v1 : ∀ x ∈ (scope.names.filter fun x => (x.2 == .local || x.2 == .cell) && x.1 != (".0" : Str)).reverse, x.2 = .local → Env.kindOf { cenv with scope := relabel scope env } x.1 = some .local := fun x hx => loc x (List.mem_filter.mp (List.mem_reverse.mp hx)).1
  refine wpAny_holding (wpAny_bind (wpAny_attempt (wpAny_holding (wpAny_run (codeAny_mono h₄ fun r s' hr => ?_)))))
  cases r with
  | error x => cases use <;> exact hr.elim
  | ok f =>
    cases use with
    | none =>
      obtain ⟨m, hn, hr⟩ := hr
      exact wpAny_bind (wpAny_holding (wpAny_comp_letGo (cenv := { cenv with scope := relabel scope env }) hkind _ s' m v1 hn fun h' m' hn' hs' => wpAny_pure (hr h' m' hn' hs')))
    | some u =>
      refine wpAny_bind (wpAny_rule (wpAny_bind (wpAny_holding (wpAny_mono hr (fun _ s'' hr' => ?_) fun _ _ z => z))))
      obtain ⟨m, hn, hr'⟩ := hr'
      refine wpAny_bind (wpAny_comp_letGo (cenv := { cenv with scope := relabel scope env }) hkind _ s'' m (fun x hx => ?_) hn fun h' m' hn' hs' => wpAny_pure (hr' h' m' hn' hs'))
      rcases List.mem_append.mp hx with q | q
      · exact v1 x (List.mem_of_mem_drop q)
      · exact v1 x (List.mem_of_mem_take q)
theorem After.varBack {G : Gd} {cx : Cx} {sc : Scope} {ρ : AEnv} {X : List Addr} {S S' : Addr → Prop} {h h' : Heap} (k : After X S h S' h') (r : Rel G cx sc ρ S h) {y : Str} {w : Value} (q : Var cx.env h' y w) : Var cx.env h y w := by
  rcases q with ⟨a, m₁, b, c⟩ | ⟨a, c, b, d⟩
  · obtain ⟨m₀, n₀⟩ := r.ns
    exact .inl ⟨a, m₀, n₀, by rw [(k.ns n₀).agree b y]; exact c⟩
  · obtain ⟨w₀, n₀⟩ := r.cells y c b
    exact .inr ⟨a, c, b, by rw [IsCell.inj d (k.cell n₀)]; exact n₀⟩
section
variable {G : Gd} {k : Nat} {sc csc : Scope}
theorem comp_core {cx : Cx} {ρ : AEnv} {S : Addr → Prop} {s : Shared} {tg iter elt : Expr} {ifs : List Expr} {pos p : Pos} {xs : List Str} {src : AEnv → Res (List D)} {b : D → AEnv → Option AEnv} {t : AEnv → Res Bool} {f : AEnv → Res T} {use : Option (Value → Sem Unit)} {Q : Value → Shared → Prop} {E : Value → Shared → Prop}
    (hi : SimI G k sc tg iter src) (ha : SimA G (relabelS csc sc) tg xs b) (hxs : ∀ x ∈ xs, csc.names.lookup x = some .local ∨ csc.names.lookup x = some .cell) (ht : SimTF G k (relabelS csc sc) ifs t) (he : Sim G k (relabelS csc sc) elt f) (hok : compOk sc csc = true)
    (hs : ∀ env x, foldedSetIterable iter env x = pure x) (ok : CxOk G cx sc k) (r : Rel G cx sc ρ S s.heap) (nst : eComp sc csc src b t f ρ ≠ .stuck)
    (fin : ∀ out ρ₁ L C S' h' tk, eComp sc csc src b t f ρ = .ok (.ow true (.list out)) ρ₁ → Rel G cx sc ρ₁ S' h' → Ext S s.heap S' h' → VarSame cx.env s.heap h' → Fresh cx S' h' (.ref L) (.list out) → (∃ m, h'.Ns C m) → ¬ S' C → C ≠ L → C ≠ cx.env.locals → cx.h₀.get? C = none → G.B.get? C = none → s.heap.get? C = none → (∀ env ∈ cx.fs, env.frame ≠ some C) →
      CPost G.M cx.A E use Q (.ref L) C (.ok .next) { s with heap := h', toks := tk }) :
    wpAny G.M cx.A (comprehension (.ListComp elt [⟨tg, iter, ifs, 0⟩] csc pos) csc cx.env p (newList []) false (eval iter cx.env) use) Q E s := by
  have hok0 := hok
  unfold compOk at hok0
  simp only [Bool.and_eq_true, beq_iff_eq] at hok0
  have hkind : csc.kind = .function := hok0.1.1
  have hnd : (csc.names.map (·.1)).Nodup := nodupB_ok hok0.1.2
  obtain ⟨ρ', ds, ρ₁, ρ₀, out, c1, c2, c3, c4, c5⟩ := eComp_ok nst
  have g₀ : CG G cx sc csc ρ S s.heap [] s.heap.objs.size ρ' := ⟨ok.hsc, r, (fun b hb => by cases hb), Nat.le_refl _, hok, c1⟩
  have hcl : ∀ x ∈ csc.names, x.2 = .free → ∃ c, cx.env.cells.lookup x.1 = some c := fun x hx hf => by
    obtain ⟨n, kk⟩ := x
    cases hf
    obtain ⟨c, v, i, t, h1, _⟩ := g₀.taken (lookup_mem hnd hx)
    exact ⟨c, h1⟩
  refine wp_comprehension (use := use) rfl (hs cx.env) (closureFor_eq hcl) hkind (fun x hx hl => by
    obtain ⟨n, kk⟩ := x
    cases hl
    exact lookup_mem hnd hx) ?_
  refine hi cx ok ρ S s r _ E ?_
  rw [c2]
  intro I wr St S₁ h₁ t₁ r₁ it st nw x₁ v₁
  have new : ∀ b ∈ wr, cx.h₀.get? b = none ∧ G.B.get? b = none := fun b hb => ⟨r.keep.none (nw b hb), by
    cases q : G.B.get? b with
    | none => rfl
    | some o => have := r.base b o q; rw [nw b hb] at this; cases this⟩
  have g : CG G cx sc csc ρ₁ S₁ h₁ wr (h₁.objs.size + 1) ρ₀ := ⟨ok.hsc, r₁, new, Nat.le_succ _, hok, c3⟩
  have sh := it.shape 0 S₁ h₁ st
  have ci := CI.init g sh
  refine wpAny_newObj_type (newFunctionEnv_comp ?_) (by show ([] : List Value).toArray.size ≤ sizeLine; simp)
  dsimp only
  rw [Heap.size_push]
  have envE : ({ scope := relabel csc cx.env, locals := h₁.objs.size + 1, globals := cx.env.globals, cells := cellsFrom (h₁.objs.size + 1 + 1) csc.names (closL cx.env csc.names []), qual := cx.env.qual, func := none, code := cx.env.code, frame := cx.env.frame, builtins := cx.env.builtins } : Env) = compE csc sc cx.env (h₁.objs.size + 1) := by
    unfold compE compCells
    rw [relabel_eq ok.hsc]
  rw [envE]
  have hn₁ : h₁.get? h₁.objs.size = none := Heap.get?_none_of_le (Nat.le_refl _)
  have hn₂ : h₁.get? (h₁.objs.size + 1) = none := Heap.get?_none_of_le (Nat.le_succ _)
  have loop : codeAny G.M cx.A (.compLoop (.ListComp elt [⟨tg, iter, ifs, 0⟩] csc pos) 0 (.ref I) (.ref h₁.objs.size) (compE csc sc cx.env (h₁.objs.size + 1))) (CPost G.M cx.A E use Q (.ref h₁.objs.size) (h₁.objs.size + 1)) { s with heap := compHeap h₁ csc, toks := t₁ } := by
    refine comp_loop (s := { s with heap := compHeap h₁ csc, toks := t₁ }) (n := 0) g ok it ha hxs ht he ci ?_ hn₁ (Nat.lt_succ_self _) (fun q => ?_) (it.ext 0 S₁ h₁ S₁ _ st (Ext.of_keeps fun b o e => compHeap_keeps e)) (hni_of r.hOk nw) c4 fun S' h' tk ci' own hSL => ?_
    · exact pushCells_keeps _ _ _ _ (Heap.get?_push_of_some _ (Heap.get?_push_size _ rfl))
    · obtain ⟨o, e⟩ := r₁.sdom _ q; rw [hn₁] at e; cases e
    · obtain ⟨ro, same⟩ := r₁.after ci'.aft ci'.base fun b hb => (new b hb).1
      refine fin out ρ₁ h₁.objs.size (h₁.objs.size + 1) S' h' tk c5 ro (ci'.aft.ext x₁ nw) (v₁.trans same) ⟨_, rfl, hSL, own, r₁.keep.none hn₁, fun x hd q => ?_⟩ ci'.ns ci'.sloc (Nat.succ_ne_self _) ?_ (r₁.keep.none hn₂) ?_ (x₁.none hn₂) fun env he q => ?_
      · obtain ⟨o, e⟩ := r₁.live x _ hd (ci'.aft.varBack r₁ q)
        rw [hn₁] at e; cases e
      · intro q
        obtain ⟨m, o, _, _, e, _⟩ := r₁.ns
        rw [← q, hn₂] at e; cases e
      · cases q : G.B.get? (h₁.objs.size + 1) with
        | none => rfl
        | some o => have := r₁.base _ o q; rw [hn₂] at this; cases this
      · obtain ⟨_, L, o, b, _, d, _⟩ := r₁.ff env he
        rw [q] at b; cases b
        rw [hn₂] at d; cases d
  exact codeAny_compStart_list loop (it.self 0 S₁ _ _ _ (it.ext 0 S₁ h₁ S₁ _ st (Ext.of_keeps fun b o e => compHeap_keeps e)) loop)
theorem sim_ListComp {tg iter elt : Expr} {ifs : List Expr} {pos : Pos} {xs : List Str} {src : AEnv → Res (List D)} {b : D → AEnv → Option AEnv} {t : AEnv → Res Bool} {f : AEnv → Res T} (hi : SimI G k sc tg iter src) (ha : SimA G (relabelS csc sc) tg xs b) (hxs : ∀ x ∈ xs, csc.names.lookup x = some .local ∨ csc.names.lookup x = some .cell)
    (ht : SimTF G k (relabelS csc sc) ifs t) (he : Sim G k (relabelS csc sc) elt f) (hok : compOk sc csc = true) (hs : ∀ env x, foldedSetIterable iter env x = pure x) : Sim G k sc (.ListComp elt [⟨tg, iter, ifs, 0⟩] csc pos) (eComp sc csc src b t f) := by
  intro cx ok ρ S s r Q E out
  rw [eval_ListComp]
  refine comp_core hi ha hxs ht he hok hs ok r (fun q => by rw [q] at out; exact out) fun ds ρ₁ L C S' h' tk e r' x' v' fr ns hSC hCL hCl hC0 hCB hCs hff => ?_
  rw [e] at out
  obtain ⟨m, n⟩ := ns
  refine ⟨m, n, fun h'' m'' n'' k'' => ?_⟩
  obtain ⟨oC, es, ep, eC, dC, _⟩ := n
  obtain ⟨oC', _, _, eC', _⟩ := n''
  obtain ⟨r'', x'', v''⟩ := r'.butDict eC dC hSC hCl hC0 hCB hff k'' ⟨_, eC'⟩
  obtain ⟨a, ea, n1, ow, n2, nv⟩ := fr
  cases ea
  exact out (.ref L) h'' tk S' r'' ⟨L, rfl, n1, ow.ext x'' fun o eo => (k''.2 L (Ne.symm hCL)).trans eo, n2, fun x hd q => nv x hd (v''.2 x _ q)⟩ (x'.trans x'') fun z => v'.trans v''.1
theorem simS_AssignComp {tg iter elt : Expr} {ifs : List Expr} {pos yp spos : Pos} {xs : List Str} {y : Str} {i : Nat} {src : AEnv → Res (List D)} {b : D → AEnv → Option AEnv} {t : AEnv → Res Bool} {f : AEnv → Res T} (hi : SimI G k sc tg iter src) (ha : SimA G (relabelS csc sc) tg xs b) (hxs : ∀ x ∈ xs, csc.names.lookup x = some .local ∨ csc.names.lookup x = some .cell)
    (ht : SimTF G k (relabelS csc sc) ifs t) (he : Sim G k (relabelS csc sc) elt f) (hok : compOk sc csc = true) (hs : ∀ env x, foldedSetIterable iter env x = pure x) (hy : (varNames sc)[i]? = some y) (hk : sc.names.lookup y = some .local) (hcl : isDirty y = false)
    (hsw : ∀ env : Env, env.scope = sc → swapsWith (.ListComp elt [⟨tg, iter, ifs, 0⟩] csc pos) (some (.Name y yp)) spos.line env = pure true) : SimS G k sc (.Assign [.Name y yp] (.ListComp elt [⟨tg, iter, ifs, 0⟩] csc pos) spos) (sAssign i (eComp sc csc src b t f)) := by
  intro cx ok fn ρ S s r Q E out
  rw [exec_Assign_Name_used _ _ _ _ (hsw cx.env ok.hsc)]
  refine wpAny_bind (wpAny_standAt (wpAny_bind ?_))
  rw [arm_evalThenUse_ListComp]
  refine wpAny_bind ?_
  unfold sAssign at out
  refine comp_core (use := some (assign (.Name y yp) cx.env)) hi ha hxs ht he hok hs ok r (fun q => by rw [q] at out; exact out) fun ds ρ₁ L C S' h' tk e r' x' v' fr ns hSC hCL hCl hC0 hCB hCs hff => ?_
  rw [e] at out
  show wpAny G.M cx.A (assign (.Name y yp) cx.env (.ref L)) _ E _
  rw [PySem.assign_Name]
  refine wpAny_bind (wpAny_standAt (wpAny_bindName ?_))
  refine storeL (s := { s with heap := h', toks := tk }) (ok.mono (Nat.zero_le _)) fn.toFnCx r' hy hk (.inl hcl) (t := .ow true (.list ds)) fr fun h₂ t₂ r₂ x₂ k₂ => ?_
  obtain ⟨m, n⟩ := ns
  have n₂ : h₂.Ns C m := n.sameBut k₂ hCl
  refine ⟨m, n₂, fun h₃ m₃ n₃ k₃ => ?_⟩
  obtain ⟨oC, es, ep, eC, dC, _⟩ := n₂
  obtain ⟨oC', _, _, eC', _⟩ := n₃
  obtain ⟨r₃, x₃, v₃⟩ := r₂.butDict eC dC hSC hCl hC0 hCB hff k₃ ⟨_, eC'⟩
  exact wpAny_pure (wpAny_pure (out .next h₃ t₂ S' r₃ trivial ((x'.trans x₂).trans x₃) fun z => by cases z))
end
end Mine
end

section
set_option Elab.async false
set_option maxRecDepth 100000
namespace Mine
open PySem PyProof.Rows
structure Gr (G : Gd) : Prop where
  ok : G.Ok
  tr : ∃ p loose, W.TopRead p loose G.mg G.mb G.B
  mbb : ∀ x : Str, x ≠ "__name__" → G.mb x = bootBuiltins x
theorem Gr.loud {G : Gd} (g : Gr G) : Gr G.loud := ⟨⟨g.ok.g, g.ok.b, g.ok.nolimit, g.ok.K⟩, g.tr, g.mbb⟩
noncomputable def fnAt (K : W.Frag) (a : Addr) : FuncData := match K.lookup a with | some ⟨_, _, .func fd, _⟩ => fd | _ => default
noncomputable def isFnAt (K : W.Frag) (a : Addr) : Bool := match K.lookup a with | some ⟨_, _, .func _, _⟩ => true | _ => false
noncomputable def stmtsOf (fd : FuncData) : List Stmt := match fd.body with | .stmts b => b | _ => []
theorem fn_at {G : Gd} (g : Gr G) {a : Addr} (h : isFnAt G.K a = true) : ∃ fo, G.B.get? a = some fo ∧ fo.data = .func (fnAt G.K a) := by
  unfold isFnAt at h
  unfold fnAt
  split at h
  · rename_i c d fd sl e
    exact ⟨_, g.ok.K _ _ e, rfl⟩
  · cases h
section
variable {G : Gd} {k : Nat} {sc : Scope} {x : Str} {p : Pos}
theorem nV (i : Nat) (hx : (varNames sc)[i]? = some x := by kernel_rfl) (hd : (x == ("__debug__" : Str)) = false := by kernel_rfl) (hn : (x == ("__classdict__" : Str)) = false := by kernel_rfl) : Sim G k sc (.Name x p) (eVar i) := sim_name hx hd hn
theorem nB (i : Nat) (hx : (varNames sc)[i]? = some x := by kernel_rfl) (hd : (x == ("__debug__" : Str)) = false := by kernel_rfl) (hn : (x == ("__classdict__" : Str)) = false := by kernel_rfl) : SimB G k sc (.Name x p) (eOp i) := simB_name hx hd hn
theorem gF (g : Gr G) (a : Addr) (e : W.nsIn G.K mainGlobals x = some (some (.ref a)) := by kernel_rfl) (ho : (G.K.lookup a).isSome = true := by kernel_rfl) (hx : sc.names.lookup x = some .globalImplicit := by kernel_rfl) (hd : (x == ("__debug__" : Str)) = false := by kernel_rfl) :
    Sim G k sc (.Name x p) (eConst (.glob (.ref a))) := by
  obtain ⟨o, ho⟩ := Option.isSome_iff_exists.mp ho
  exact sim_global g.ok hx (W.mg_of g.ok.K g.ok.g e) (fun b q => by cases q; exact ⟨o, g.ok.K _ _ ho⟩) hd
theorem gI (g : Gr G) (i : Int) (t : Tok) (e : W.nsIn G.K mainGlobals x = some (some (.int i t)) := by kernel_rfl) (hx : sc.names.lookup x = some .globalImplicit := by kernel_rfl) (hd : (x == ("__debug__" : Str)) = false := by kernel_rfl) :
    Sim G k sc (.Name x p) (eConst (.int i)) := sim_globalInt g.ok hx (W.mg_of g.ok.K g.ok.g e) hd
theorem gB (g : Gr G) (v : Value) (e : W.nsIn G.K mainGlobals x = some none := by kernel_rfl) (hv : bootBuiltins x = some v := by kernel_rfl) (hn : (x == ("__name__" : Str)) = false := by kernel_rfl) (hl : v.isRef = false := by rfl) (hx : sc.names.lookup x = some .globalImplicit := by kernel_rfl) (hd : (x == ("__debug__" : Str)) = false := by kernel_rfl) :
    Sim G k sc (.Name x p) (eConst (.glob v)) :=
  sim_builtin g.ok hx (W.mg_none_of g.ok.K g.ok.g e) ((g.mbb x (by simpa using hn)).trans hv) (fun a q => by subst q; cases hl) hd
variable {args : List Expr} {pos : Pos}
theorem cF (g : Gr G) (a : Addr) {k' : Nat} {F : List D → FOut} {fa : AEnv → Res (List Bv)} (hF : FnOK G k' (.ref a) F) (ha : SimBs G k sc args fa) (hk : k' ≤ k := by decide) (hf : isFnAt G.K a = true := by kernel_rfl) (e : W.nsIn G.K mainGlobals x = some (some (.ref a)) := by kernel_rfl) (ho : (G.K.lookup a).isSome = true := by kernel_rfl) (hx : sc.names.lookup x = some .globalImplicit := by kernel_rfl) (hd : (x == ("__debug__" : Str)) = false := by kernel_rfl) (hu : args.all unstarred = true := by kernel_rfl) :
    Sim G k sc (.Call (.Name x p) args [] pos) (eCall F fa) := by
  obtain ⟨fo, h1, h2⟩ := fn_at g hf
  exact sim_call (gF g a e ho hx hd) h1 h2 hF hk ha hu
theorem cB (g : Gr G) (v : Value) {F : List D → Option T} {fa : AEnv → Res (List Bv)} (hop : OpN G (fun vs => call v vs []) F) (ha : SimBs G k sc args fa) (e : W.nsIn G.K mainGlobals x = some none := by kernel_rfl) (hv : bootBuiltins x = some v := by kernel_rfl) (hn : (x == ("__name__" : Str)) = false := by kernel_rfl) (hl : v.isRef = false := by rfl) (hx : sc.names.lookup x = some .globalImplicit := by kernel_rfl) (hd : (x == ("__debug__" : Str)) = false := by kernel_rfl) (hu : args.all unstarred = true := by kernel_rfl) :
    Sim G k sc (.Call (.Name x p) args [] pos) (eOpN F fa) := sim_callB (gB g v e hv hn hl hx hd) (fun a q => by subst q; cases hl) hop ha hu
theorem aC {e : Expr} {rest : List Expr} {f : AEnv → Res Bv} {h : AEnv → Res (List Bv)} (he : SimB G k sc e f) (hr : SimBs G k sc rest h) (hs : unstarred e = true := by kernel_rfl) : SimBs G k sc (e :: rest) (eConsB f h) := simBs_cons he hr hs
theorem vC {e : Expr} {rest : List Expr} {f : AEnv → Res T} {h : AEnv → Res (List D)} (he : Sim G k sc e f) (hr : SimVs G k sc rest h) (hs : unstarred e = true := by kernel_rfl) : SimVs G k sc (e :: rest) (eCons f h) := simVs_cons he hr hs
theorem cmpV {l r : Expr} {op : CmpOp} {f h : AEnv → Res Bv} {F : D → D → Option T} (hl : SimB G k sc l f) (hr : SimB G k sc r h) (hop : Op2 G (compareOp op) F) (hm : behindInMarks op r = false := by kernel_rfl) : Sim G k sc (.Compare l [op] [r] pos) (eOp2 F f h) := sim_Compare1 hl hr hop hm
theorem cmpT {l r : Expr} {op : CmpOp} {f h : AEnv → Res Bv} {F : D → D → Option T} (hl : SimB G k sc l f) (hr : SimB G k sc r h) (hop : Op2 G (compareOp op) F) (hm : behindInMarks op r = false := by kernel_rfl) : SimT G k sc (.Compare l [op] [r] pos) (eTest2 F f h) := simT_Compare1 hl hr hop hm
theorem chT {l m r : Expr} {op op' : CmpOp} {f g h : AEnv → Res Bv} {F F' : D → D → Option T} (hl : SimB G k sc l f) (hm : SimB G k sc m g) (hr : SimB G k sc r h) (hop : Op2 G (compareOp op) F) (hop' : Op2 G (compareOp op') F') (hb : behindInMarks op' r = false := by kernel_rfl) : SimT G k sc (.Compare l [op, op'] [m, r] pos) (eChain F F' f g h) := simT_chain hl hm hr hop hop' hb
theorem callT {fn : Expr} {f : AEnv → Res Bv} (h : SimB G k sc (.Call fn args [] pos) f) : SimT G k sc (.Call fn args [] pos) (eTruth f) := simT_val h fun _ _ => rfl
theorem nameT {f : AEnv → Res Bv} (h : SimB G k sc (.Name x p) f) : SimT G k sc (.Name x p) (eTruth f) := simT_val h fun _ _ => rfl
theorem sub {value slice : Expr} {f g : AEnv → Res Bv} (hl : SimB G k sc value f) (hr : SimB G k sc slice g) (hs : ∀ o i, subscripted slice false o i = operate [o, i] (getItem o i) := by intro _ _; rfl) : Sim G k sc (.Subscript value slice pos) (eOp2 idxI f g) := sim_Subscript hl hr hs
theorem asg {value : Expr} {f : AEnv → Res T} (i : Nat) (h : Sim G k sc value f) (hx : (varNames sc)[i]? = some x := by kernel_rfl) (hk : (sc.names.lookup x == some .local || sc.names.lookup x == some .cell) = true := by kernel_rfl) (hcl : isDirty x = false := by kernel_rfl) (hs : ∀ env : Env, swapsWith value (some (.Name x p)) pos.line env = pure false := by intro _; rfl) : SimS G k sc (.Assign [.Name x p] value pos) (sAssign i f) :=
  simS_Assign h hx (by simpa using hk) hcl fun env _ => hs env
theorem retV (i : Nat) (hx : (varNames sc)[i]? = some x := by kernel_rfl) (hd : (x == ("__debug__" : Str)) = false := by kernel_rfl) (hn : (x == ("__classdict__" : Str)) = false := by kernel_rfl) : SimS G k sc (.Return (some (.Name x p)) pos) (sRetVar i) := simS_ReturnVar hx hd hn
theorem rais (g : Gr G) (C : Addr) {np cpos : Pos} {bm : List Value} {newId Bn initId : String} {fa : AEnv → Res (List D)} (FB : ExcBaseFacts Bn newId initId bm) (ha : SimVs G k sc args fa) (hq : G.quiet = true := by rfl) (e : W.nsIn G.K mainGlobals x = some (some (.ref C)) := by kernel_rfl) (q : W.excIn G.K C bm newId = true := by kernel_rfl) (hx : sc.names.lookup x = some .globalImplicit := by kernel_rfl) (hd : (x == ("__debug__" : Str)) = false := by kernel_rfl) (hu : args.all unstarred = true := by kernel_rfl) :
    SimS G k sc (.Raise (some (.Call (.Name x np) args [] cpos)) none pos) (sRaise C fa) := by
  obtain ⟨_, _, tr⟩ := g.tr
  exact simS_Raise g.ok hq (W.own_of_in g.ok.K tr e q) FB hx hd ha hu
theorem tryS (g : Gr G) (C' : Addr) (i : Nat) {body suite : List Stmt} {b₀ : Stmt} {n : Str} {np hp : Pos} {f h : AEnv → Res Fl} (hb : SimSs G k sc body f) (hs : SimSs G.loud k sc (b₀ :: suite) h) (hq : G.quiet = true := by rfl) (e : W.nsIn G.K mainGlobals x = some (some (.ref C')) := by kernel_rfl) (ho : (G.K.lookup C').isSome = true := by kernel_rfl) (hgx : sc.names.lookup x = some .globalImplicit := by kernel_rfl) (hd : (x == ("__debug__" : Str)) = false := by kernel_rfl)
    (hx : (varNames sc)[i]? = some n := by kernel_rfl) (hk : sc.names.lookup n = some .local := by kernel_rfl) (hdn : isDirty n = true := by kernel_rfl) (hty : W.typeIn G.K (.ref C') = some (.type "type") := by kernel_rfl) (hcl : (W.clsIn G.K C').isSome = true := by kernel_rfl) (hbe : W.mroIn G.K C' (.type "BaseException") = some true := by kernel_rfl) :
    SimS G k sc (.Try body [.ExceptHandler (some (.Name x np)) (some n) (b₀ :: suite) hp] [] [] pos) (sTry G.K C' i f h) := simS_Try g.ok hq hb hs (gF g.loud C' e ho hgx hd) hx hk hdn hty hcl hbe
theorem exM {e : Expr} {f : AEnv → Res T} (h : SimM G k sc e f) (hs : ∀ env : Env, swapsWith e none pos.line env = pure false := by intro _; rfl) : SimS G k sc (.Expr e pos) (sExpr (eVal f)) := simS_ExprM h hs
theorem appM {apos : Pos} {e : Expr} {f : AEnv → Res T} (i : Nat) (he : SimM G k sc e f) (hx : (varNames sc)[i]? = some x := by kernel_rfl) (hd : (x == ("__debug__" : Str)) = false := by kernel_rfl) (hn : (x == ("__classdict__" : Str)) = false := by kernel_rfl) (hu : ∀ env, backTo pos (starEach [e] env) = [(false, eval e env)] := by intro _; rfl) (hline : (apos.endLine == pos.line) = true := by rfl) : SimM G k sc (.Call (.Attribute (.Name x p) "append" apos) [e] [] pos) (eAppend i f) := sim_append he hx hd hn hu hline
theorem popM {apos : Pos} {e : Expr} {f : AEnv → Res Bv} (i : Nat) (he : SimB G k sc e f) (hx : (varNames sc)[i]? = some x := by kernel_rfl) (hd : (x == ("__debug__" : Str)) = false := by kernel_rfl) (hn : (x == ("__classdict__" : Str)) = false := by kernel_rfl) (hu : ∀ env, backTo pos (starEach [e] env) = [(false, eval e env)] := by intro _; rfl) (hline : (apos.endLine == pos.line) = true := by rfl) : SimM G k sc (.Call (.Attribute (.Name x p) "pop" apos) [e] [] pos) (ePop i f) := sim_pop he hx hd hn hu hline
theorem tgN (i : Nat) (hx : (varNames sc)[i]? = some x := by kernel_rfl) : SimA G sc (.Name x p) [x] (bName i) := simA_name hx
theorem tgT2 {y : Str} {py tp : Pos} {n : Nat} (i j : Nat) (hx : (varNames sc)[i]? = some x := by kernel_rfl) (hy : (varNames sc)[j]? = some y := by kernel_rfl) : SimA G sc (.Tuple [.Name x p, .Name y py] n tp) [x, y] (bTuple [i, j]) := simA_tuple (.cons hx (.cons hy .nil))
theorem forS {tg iter : Expr} {body : List Stmt} {src : AEnv → Res (List D)} {xs : List Str} {b : D → AEnv → Option AEnv} {f : AEnv → Res Fl} (hi : SimI G k sc tg iter src) (ht : SimA G sc tg xs b) (hb : SimSs G k sc body f) (hxs : (xs.all fun x => sc.names.lookup x == some .local || sc.names.lookup x == some .cell) = true := by kernel_rfl)
    (hs : ∀ env x, foldedSetIterable iter env x = pure x := by intro _ _; rfl) : SimS G k sc (.For tg iter body [] pos) (sFor src b f) := simS_For hi ht (fun x hx => by simpa using List.all_eq_true.mp hxs x hx) hb hs
end
noncomputable def capOf (sc csc : Scope) : List (Option Nat) := (varNames (relabelS csc sc)).map fun x => if csc.names.lookup x == some .free then (varNames sc).findIdx? (· == x) else none
noncomputable def capI (ρ : AEnv) : List (Option Nat) → Option AEnv
  | [] => some []
  | none :: r => (capI ρ r).map (none :: ·)
  | some i :: r => match ρ[i]? with
    | some (some t) => (capI ρ r).map (some t.weak :: ·)
    | _ => none
noncomputable def capFound (sc csc : Scope) : Bool := csc.names.all fun x => x.2 != .free || ((varNames sc).findIdx? (· == x.1)).isSome
theorem capI_eq {sc csc : Scope} {ρ : AEnv} (hf : capFound sc csc = true) : ∀ (l : List Str), capL sc csc ρ l = capI ρ (l.map fun x => if csc.names.lookup x == some .free then (varNames sc).findIdx? (· == x) else none)
  | [] => rfl
  | x :: r => by
    rw [capL, List.map_cons, capI_eq hf r]
    unfold capOne
    by_cases hx : (csc.names.lookup x == some .free) = true
    · rw [if_pos hx, if_pos hx]
      have := List.all_eq_true.mp hf (x, .free) (mem_of_lookup' (beq_iff_eq.mp hx))
      simp only [bne_self_eq_false, Bool.false_or] at this
      obtain ⟨i, hi⟩ := Option.isSome_iff_exists.mp this
      rw [hi]
      simp only
      generalize List.map _ r = l'
      rw [capI]
      cases hr : ρ[i]? with
      | none => cases hq : capI ρ l' <;> rfl
      | some u =>
        cases u with
        | none => cases hq : capI ρ l' <;> rfl
        | some t => cases hq : capI ρ l' <;> rfl
    · rw [if_neg hx, if_neg hx, capI]
      generalize List.map _ r = l'
      cases hq : capI ρ l' <;> rfl
noncomputable def eCompI (cap : List (Option Nat)) (src : AEnv → Res (List D)) (b : D → AEnv → Option AEnv) (t : AEnv → Res Bool) (f : AEnv → Res T) : AEnv → Res T := fun ρ => match capI ρ cap with
  | none => .stuck
  | some _ => match src ρ with
    | .ok ds ρ₁ => (match capI ρ₁ cap with
      | some ρ₀ => (match compN b t f ρ₀ ds [] with
        | some out => .ok (.ow true (.list out)) ρ₁
        | none => .stuck)
      | none => .stuck)
    | _ => .stuck
theorem eCompI_eq {sc csc : Scope} {cap : List (Option Nat)} {src : AEnv → Res (List D)} {b : D → AEnv → Option AEnv} {t : AEnv → Res Bool} {f : AEnv → Res T} (hf : capFound sc csc = true) (hc : capOf sc csc = cap) : eComp sc csc src b t f = eCompI cap src b t f := by
  funext ρ
  unfold eComp eCompI
  rw [capI_eq hf, show (varNames (relabelS csc sc)).map _ = cap from hc]
  cases capI ρ cap with
  | none => rfl
  | some _ =>
    simp only
    cases src ρ with
    | ok ds ρ₁ =>
      simp only
      rw [capI_eq hf, show (varNames (relabelS csc sc)).map _ = cap from hc]
      all_goals rfl
    | exc _ _ => rfl
    | stuck => rfl
section
variable {G : Gd} {k : Nat} {sc csc : Scope} {tg iter elt : Expr} {ifs : List Expr} {pos : Pos} {xs : List Str} {src : AEnv → Res (List D)} {b : D → AEnv → Option AEnv} {t : AEnv → Res Bool} {f : AEnv → Res T}
theorem lc (cap : List (Option Nat)) (hi : SimI G k sc tg iter src) (ha : SimA G (relabelS csc sc) tg xs b) (ht : SimTF G k (relabelS csc sc) ifs t) (he : Sim G k (relabelS csc sc) elt f) (hxs : (xs.all fun x => csc.names.lookup x == some .local || csc.names.lookup x == some .cell) = true := by kernel_rfl) (hok : compOk sc csc = true := by kernel_rfl) (hfd : capFound sc csc = true := by kernel_rfl) (hc : capOf sc csc = cap := by kernel_rfl)
    (hs : ∀ env x, foldedSetIterable iter env x = pure x := by intro _ _; rfl) : Sim G k sc (.ListComp elt [⟨tg, iter, ifs, 0⟩] csc pos) (eCompI cap src b t f) := by
  rw [← eCompI_eq hfd hc]
  exact sim_ListComp hi ha (fun x hx => by simpa using List.all_eq_true.mp hxs x hx) ht he hok hs
theorem swaps_true {y : Str} {yp : Pos} {l : Nat} (hk : sc.kind = .function) (hy : sc.names.lookup y = some .local) (hl : (yp.line == pos.line) = true) (hn : (csc.names.any fun (n, k) => n == y && (k == .local || k == .cell)) = false) (env : Env) (he : env.scope = sc) : swapsWith (.ListComp elt [⟨tg, iter, ifs, 0⟩] csc pos) (some (.Name y yp)) l env = pure true := by
  show (pure (env.blockKind == .function && env.kindOf y == some .local && yp.line == pos.line && !(csc.names.any fun (n, k) => n == y && (k == .local || k == .cell))) : Sem Bool) = _
  have h1 : env.blockKind = .function := by
    unfold Env.blockKind
    rw [he, hk]
    rfl
  have h2 : env.kindOf y = some .local := by unfold Env.kindOf; rw [he]; exact hy
  rw [h1, h2, hl, hn]
  rfl
theorem asgC {y : Str} {yp spos : Pos} (i : Nat) (cap : List (Option Nat)) (hi : SimI G k sc tg iter src) (ha : SimA G (relabelS csc sc) tg xs b) (ht : SimTF G k (relabelS csc sc) ifs t) (he : Sim G k (relabelS csc sc) elt f) (hxs : (xs.all fun x => csc.names.lookup x == some .local || csc.names.lookup x == some .cell) = true := by kernel_rfl) (hok : compOk sc csc = true := by kernel_rfl) (hfd : capFound sc csc = true := by kernel_rfl) (hc : capOf sc csc = cap := by kernel_rfl)
    (hs : ∀ env x, foldedSetIterable iter env x = pure x := by intro _ _; rfl) (hy : (varNames sc)[i]? = some y := by kernel_rfl) (hk : sc.names.lookup y = some .local := by kernel_rfl) (hcl : isDirty y = false := by kernel_rfl) (hkk : sc.kind = .function := by kernel_rfl) (hl : (yp.line == pos.line) = true := by rfl) (hn : (csc.names.any fun (n, k) => n == y && (k == .local || k == .cell)) = false := by kernel_rfl) :
    SimS G k sc (.Assign [.Name y yp] (.ListComp elt [⟨tg, iter, ifs, 0⟩] csc pos) spos) (sAssign i (eCompI cap src b t f)) := by
  rw [← eCompI_eq hfd hc]
  exact simS_AssignComp hi ha (fun x hx => by simpa using List.all_eq_true.mp hxs x hx) ht he hok hs hy hk hcl (swaps_true hkk hk hl hn)
end
noncomputable def initI (n : Nat) (is : List Nat) (ds : List D) : AEnv := (List.range n).map fun j => ((is.zip ds).lookup j).map T.sh
noncomputable def runI (n : Nat) (is : List Nat) (f : AEnv → Res Fl) (ds : List D) : FOut := if ds.length = is.length then finF (f (initI n is ds)) else .stuck
noncomputable def idxsOf (vn ps : List Str) : List Nat := ps.map fun p => (vn.findIdx? (· == p)).getD vn.length
theorem idx_lookup {vn : List Str} (nd : vn.Nodup) {j : Nat} {x : Str} (hx : vn[j]? = some x) : ∀ (ps : List Str) (ds : List D), (ps.all fun p => vn.contains p) = true → (ps.zip ds).lookup x = ((idxsOf vn ps).zip ds).lookup j
  | [], _, _ => rfl
  | p :: ps, [], _ => by simp [idxsOf]
  | p :: ps, d :: ds, h => by
    rw [List.all_cons, Bool.and_eq_true_iff] at h
    have hp : p ∈ vn := by simpa using h.1
    obtain ⟨i, hi⟩ : ∃ i, vn.findIdx? (· == p) = some i := by
      cases q : vn.findIdx? (· == p) with
      | some i => exact ⟨i, rfl⟩
      | none => exact absurd (List.findIdx?_eq_none_iff.mp q p hp) (by simp)
    obtain ⟨h1, h2, _⟩ := List.findIdx?_eq_some_iff_getElem.mp hi
    have h2 : vn[i] = p := beq_iff_eq.mp h2
    have e : idxsOf vn (p :: ps) = i :: idxsOf vn ps := by unfold idxsOf; rw [List.map_cons, hi]; rfl
    rw [e, List.zip_cons_cons, List.zip_cons_cons, List.lookup_cons, List.lookup_cons, idx_lookup nd hx ps ds h.2]
    obtain ⟨j1, j2⟩ := List.getElem?_eq_some_iff.mp hx
    by_cases hxp : x = p
    · have : j = i := (List.getElem_inj nd).mp (j2.trans (hxp.trans h2.symm))
      simp [hxp, this]
    · have hji : ¬ j = i := fun q => hxp (by subst q; exact j2.symm.trans h2)
      have a1 : (x == p) = false := by simpa using hxp
      have a2 : (j == i) = false := by simpa using hji
      rw [a1, a2]
theorem initI_eq {sc : Scope} {ps : List Str} {ds : List D} (nd : (varNames sc).Nodup) (hp : (ps.all fun p => (varNames sc).contains p) = true) : initEnv sc ps ds = initI (varNames sc).length (idxsOf (varNames sc) ps) ds := by
  unfold initEnv initI
  apply List.ext_getElem?
  intro j
  rw [List.getElem?_map, List.getElem?_map]
  cases hx : (varNames sc)[j]? with
  | none => rw [List.getElem?_eq_none (by rw [List.length_range]; exact List.getElem?_eq_none_iff.mp hx)]; rfl
  | some x =>
    rw [List.getElem?_range (List.getElem?_eq_some_iff.mp hx).1]
    simp only [Option.map_some]
    rw [idx_lookup nd hx ps ds hp]
noncomputable def paramsOf (fd : FuncData) : List Str := fd.params.args.map (·.arg)
noncomputable def plainFn (fd : FuncData) : Bool := (match fd.body with | .stmts _ => true | _ => false) && fd.closure.isEmpty && fd.globals == mainGlobals && fd.builtins == builtinsNs && nodupB (varNames fd.scope) && nodupB (paramsOf fd) &&
  (paramsOf fd).all (fun p => (varNames fd.scope).contains p && (fd.scope.names.lookup p == some .local || fd.scope.names.lookup p == some .cell)) && fd.scope.kind == .function && !fd.scope.isCoroutine && !fd.scope.isGenerator
theorem fnI {G : Gd} (g : Gr G) {k : Nat} (a : Addr) (n : Nat) (is : List Nat) {f : AEnv → Res Fl} (h : SimSs G k (fnAt G.K a).scope (stmtsOf (fnAt G.K a)) f) (hbind : ∀ vs : List Value, vs.length = (paramsOf (fnAt G.K a)).length → bindArgs (fnAt G.K a) ⟨vs, []⟩ = pure ((paramsOf (fnAt G.K a)).zip vs))
    (hf : isFnAt G.K a = true := by kernel_rfl) (hc : W.codeIn G.K (fnAt G.K a).code (fnAt G.K a).qualname = true := by kernel_rfl) (hpl : plainFn (fnAt G.K a) = true := by kernel_rfl) (hn : (varNames (fnAt G.K a).scope).length = n := by kernel_rfl) (hi : idxsOf (varNames (fnAt G.K a).scope) (paramsOf (fnAt G.K a)) = is := by kernel_rfl) :
    FnOK G (k + 1) (.ref a) (runI n is f) := by
  obtain ⟨fo, h1, h2⟩ := fn_at g hf
  unfold plainFn at hpl
  simp only [Bool.and_eq_true, beq_iff_eq, Bool.not_eq_true'] at hpl
  obtain ⟨⟨⟨⟨⟨⟨⟨⟨⟨p1, p2⟩, p3⟩, p4⟩, p5⟩, p6⟩, p7⟩, p8⟩, p9⟩, p10⟩ := hpl
  have p7' : ∀ x ∈ paramsOf (fnAt G.K a), (varNames (fnAt G.K a).scope).contains x = true ∧ ((fnAt G.K a).scope.names.lookup x = some .local ∨ (fnAt G.K a).scope.names.lookup x = some .cell) := fun x hx => by
    have := List.all_eq_true.mp p7 x hx
    simpa using this
  have hb : (fnAt G.K a).body = .stmts (stmtsOf (fnAt G.K a)) := by
    unfold stmtsOf
    split at p1
    · rename_i b e; rw [e]
    · cases p1
  have := fn_ok g.ok (ps := paramsOf (fnAt G.K a)) h1 h2 (W.codeRec_of g.ok.K hc) hb (by simpa using p2) p3 p4 hbind (fun x hx => (p7' x hx).2) (nodupB_ok p6) (nodupB_ok p5) p8 p9 p10 h
  have e : runF (fnAt G.K a).scope (paramsOf (fnAt G.K a)) f = runI n is f := by
    funext ds
    unfold runF runI
    rw [initI_eq (nodupB_ok p5) (List.all_eq_true.mpr fun x hx => (p7' x hx).1), hn, hi]
    have hl : is.length = (paramsOf (fnAt G.K a)).length := by rw [← hi]; unfold idxsOf; simp
    rw [hl]
  rw [e] at this
  exact this
end Mine
end

section
set_option Elab.async false
set_option maxRecDepth 100000
namespace Mine
open PySem PyProof.Rows
noncomputable def revI : D → Option T
  | .tup ds => if ds.length ≤ 1000000 then some (.sh (.tup ds.reverse)) else none
  | .list ds => if ds.length ≤ 1000000 then some (.ow true (.list ds.reverse)) else none
  | _ => none
section
variable {prog : Program} {w : World} {A : Around} {E : Value → Shared → Prop} {s : Shared}
end
end Mine
end

section
set_option Elab.async false
set_option maxRecDepth 100000
namespace Mine
open PySem PyProof.Rows
theorem sim_globalStr {G : Gd} {k : Nat} {sc : Scope} {pos : Pos} {x : Str} {i : Str} {t : Tok} (hG : G.Ok) (hx : sc.names.lookup x = some .globalImplicit) (hv : G.mg x = some (.str i t)) (hd : (x == ("__debug__" : Str)) = false) : Sim G k sc (.Name x pos) (eConst (.str i)) := by
  intro cx ok ρ S s r Q E out
  refine Calls.Name_function_global (by rw [ok.hsc]; exact ok.hk) (by unfold Env.kindOf; rw [ok.hsc]; exact hx) (Calls.loadGlobal_global (mg := G.mg) (by rw [ok.hg]; exact hG.g.keeps r.base) hv ?_) hd
  exact out _ s.heap s.toks _ r (.str i t) (Ext.refl ..) fun _ => VarSame.refl _ _
theorem gS {G : Gd} {k : Nat} {sc : Scope} {x : Str} {p : Pos} (g : Gr G) (i : Str) (t : Tok) (e : W.nsIn G.K mainGlobals x = some (some (.str i t)) := by kernel_rfl) (hx : sc.names.lookup x = some .globalImplicit := by kernel_rfl) (hd : (x == ("__debug__" : Str)) = false := by kernel_rfl) :
    Sim G k sc (.Name x p) (eConst (.str i)) := sim_globalStr g.ok hx (W.mg_of g.ok.K g.ok.g e) hd
noncomputable def addS : D → D → Option T
  | .str x, .str y => if x.length + y.length ≤ 1000000 then some (.sh (.str (x ++ y))) else none
  | a, b => addD a b
theorem str_nil_app {x y : Str} (h : x.length = 0) : x ++ y = y := by
  obtain ⟨⟨l⟩⟩ := x
  have : l = [] := List.length_eq_zero_iff.mp h
  subst this
  obtain ⟨⟨m⟩⟩ := y
  show Str.mk (#[] ++ ⟨m⟩) = _
  simp
theorem str_app_nil {x y : Str} (h : y.length = 0) : x ++ y = x := by
  obtain ⟨⟨l⟩⟩ := y
  have : l = [] := List.length_eq_zero_iff.mp h
  subst this
  obtain ⟨⟨m⟩⟩ := x
  show Str.mk (⟨m⟩ ++ #[]) = _
  simp
theorem op_addS {G : Gd} : Op2 G (binaryOp .Add) addS := by
  intro cx sc ok ρ S s v w x y t rel rx ry e Q E out
  unfold addS at e; split at e
  · rename_i x y
    split at e
    · rename_i hl
      cases e
      obtain ⟨_, rfl⟩ := rx.str; obtain ⟨_, rfl⟩ := ry.str
      refine PySem.P.add_str ?_
      by_cases h1 : x.length = 0
      · rw [if_pos (by simpa using h1)]
        rw [str_nil_app h1] at out
        exact out _ s.heap s.toks S rel (.str _ _) (Ext.refl ..) fun _ => VarSame.refl _ _
      · rw [if_neg (by simpa using h1)]
        by_cases h2 : y.length = 0
        · rw [if_pos (by simpa using h2)]
          rw [str_app_nil h2] at out
          exact out _ s.heap s.toks S rel (.str _ _) (Ext.refl ..) fun _ => VarSame.refl _ _
        · rw [if_neg (by simpa using h2)]
          refine ⟨?_, out _ s.heap _ S rel (.str _ _) (Ext.refl ..) fun _ => VarSame.refl _ _⟩
          rw [sizeLine_eq, show (x ++ y).length = x.length + y.length from Array.size_append]
          omega
    · cases e
  · exact op_addD cx sc ok ρ S s v w x y t rel rx ry e Q E out
noncomputable def lenS : List D → Option T
  | [.str x] => if x.length ≤ 1000000 then some (.sh (.int x.length)) else none
  | ds => lenI ds
theorem op_lenS {G : Gd} : OpN G (fun vs => call (.builtin "len") vs []) lenS := by
  intro cx sc ok ρ S s vs ds t rel q e Q E out
  unfold lenS at e; split at e
  · split at e
    · rename_i hl
      cases e
      obtain ⟨v, rfl, r⟩ := q.one
      obtain ⟨u, rfl⟩ := r.str
      refine PySem.P.len_str (by omega) ?_
      exact out _ s.heap _ S rel (.int _ _) (Ext.refl ..) fun _ => VarSame.refl _ _
    · cases e
  · exact op_len cx sc ok ρ S s vs ds t rel q e Q E out
noncomputable def hasD (x y : D) : Option Bool := match y, x with
  | .str y, .str x => some !(Builtin.Str.occurrences y x 0 y.length 1).isEmpty
  | .list ds, x => (match toPys ds, toPy x with
    | some ps, some p => if SeqAt.shaped (.list ps) && SeqAt.shaped p then some (ps.any fun q => PyData.eqv q p) else none
    | _, _ => none)
  | .tup ds, x => (match toPys ds, toPy x with
    | some ps, some p => if SeqAt.shaped (.tuple ps) && SeqAt.shaped p then some (ps.any fun q => PyData.eqv q p) else none
    | _, _ => none)
  | _, _ => none
noncomputable def inI (x y : D) : Option T := (hasD x y).map fun b => .sh (.bool b)
noncomputable def notInI (x y : D) : Option T := (hasD x y).map fun b => .sh (.bool !b)
theorem toPy_list {ds : List D} {ps : List PyData} (h : toPys ds = some ps) : toPy (.list ds) = some (.list ps) := by rw [toPy, h]; rfl
theorem toPy_tup {ds : List D} {ps : List PyData} (h : toPys ds = some ps) : toPy (.tup ds) = some (.tuple ps) := by rw [toPy, h]; rfl
theorem shaped_items {ps : List PyData} (h : SeqAt.shaped (.list ps) = true) : PyData.canLayAll0 ps = true ∧ PyData.depthAll ps ≤ 64 := by
  have h1 := SeqAt.canLay_of_shaped h
  have h2 := SeqAt.depth_of_shaped h
  rw [PyData.canLay0] at h1
  rw [PyData.depth] at h2
  exact ⟨h1, by omega⟩
theorem shaped_itemsT {ps : List PyData} (h : SeqAt.shaped (.tuple ps) = true) : PyData.canLayAll0 ps = true ∧ PyData.depthAll ps ≤ 64 := by
  have h1 := SeqAt.canLay_of_shaped h
  have h2 := SeqAt.depth_of_shaped h
  rw [PyData.canLay0] at h1
  rw [PyData.depth] at h2
  exact ⟨h1, by omega⟩
theorem hasD_in {G : Gd} {cx : Cx} {sc : Scope} (ok : CxOk G cx sc 0) {S : Addr → Prop} {s : Shared} {v w : Value} {x y : D} {b : Bool} (rx : RB S s.heap v x) (ry : RB S s.heap w y) (e : hasD x y = some b) {Q E : Value → Shared → Prop} : (Q (.bool b) s → wpAny G.M cx.A (compareOp .In v w) Q E s) ∧ (Q (.bool !b) s → wpAny G.M cx.A (compareOp .NotIn v w) Q E s) := by
  have room := ok.room.2
  unfold hasD at e
  split at e
  · cases e
    obtain ⟨_, rfl⟩ := rx.str; obtain ⟨_, rfl⟩ := ry.str
    exact ⟨PySem.P.in_str, PySem.P.notIn_str⟩
  · rename_i ds
    split at e
    · rename_i ps p hps hp
      split at e
      · rename_i hs
        cases e
        simp only [Bool.and_eq_true] at hs
        obtain ⟨bs, rp⟩ := RV.reads rx.any hp
        obtain ⟨as, rl⟩ := RV.reads ry.any (toPy_list hps)
        have h1 := shaped_items hs.1
        have hu : cx.A.units + 1 + min (PyData.depthAll ps) p.depth < cLine := by unfold cLine; have := Nat.min_le_left (PyData.depthAll ps) p.depth; omega
        exact ⟨SeqAt.in_list_reads rl rp h1.1 (SeqAt.canLay_of_shaped hs.2) hu, SeqAt.notIn_list_reads rl rp h1.1 (SeqAt.canLay_of_shaped hs.2) hu⟩
      · cases e
    · cases e
  · rename_i ds
    split at e
    · rename_i ps p hps hp
      split at e
      · rename_i hs
        cases e
        simp only [Bool.and_eq_true] at hs
        obtain ⟨bs, rp⟩ := RV.reads rx.any hp
        obtain ⟨as, rl⟩ := RV.reads ry.any (toPy_tup hps)
        have h1 := shaped_itemsT hs.1
        have hu : cx.A.units + 1 + min (PyData.depthAll ps) p.depth < cLine := by unfold cLine; have := Nat.min_le_left (PyData.depthAll ps) p.depth; omega
        exact ⟨SeqAt.in_tuple_reads rl rp h1.1 (SeqAt.canLay_of_shaped hs.2) hu, SeqAt.notIn_tuple_reads rl rp h1.1 (SeqAt.canLay_of_shaped hs.2) hu⟩
      · cases e
    · cases e
  · cases e
theorem op_in {G : Gd} : Op2 G (compareOp .In) inI := by
  intro cx sc ok ρ S s v w x y t rel rx ry e Q E out
  obtain ⟨b, hb, rfl⟩ := Option.map_eq_some_iff.mp e
  exact (hasD_in ok rx ry hb).1 (out_sh out rel (tk := s.toks) (.bool _))
theorem op_notIn {G : Gd} : Op2 G (compareOp .NotIn) notInI := by
  intro cx sc ok ρ S s v w x y t rel rx ry e Q E out
  obtain ⟨b, hb, rfl⟩ := Option.map_eq_some_iff.mp e
  exact (hasD_in ok rx ry hb).2 (out_sh out rel (tk := s.toks) (.bool _))
noncomputable def eMeth (F : List D → Option T) (f : AEnv → Res Bv) (fa : AEnv → Res (List Bv)) : AEnv → Res T := fun ρ => (f ρ).bind fun a ρ₁ => match a.get ρ₁ with
  | some (.str x) => (fa ρ₁).bind fun bs ρ₂ => (match getAll ρ₂ bs with
    | some ds => (match F (.str x :: ds) with | some t => .ok t ρ₂ | none => .stuck)
    | none => .stuck)
  | _ => .stuck
theorem sim_meth {G : Gd} {k : Nat} {sc : Scope} {o : Expr} {name : Str} {id : String} {args : List Expr} {apos pos : Pos} {F : List D → Option T} {f : AEnv → Res Bv} {fa : AEnv → Res (List Bv)} (slot : Slot "str" name id) (hty : typeOf (.builtin id) = pure (.type "method_descriptor")) (hop : OpN G (fun vs => call (.builtin id) vs []) F)
    (ho : SimB G k sc o f) (ha : SimBs G k sc args fa) (hbase : ∀ env, attributeBase o name env (eval o env) = eval o env := by intro _; rfl) (hfew : ∀ env, ((backTo pos (starEach args env)).all (fun x => !x.1) && (backToKw pos (keywordEach [] env)).all (fun x => x.1.isSome) && decide (args.length + ([] : List Keyword).length + (if ([] : List Keyword).isEmpty then 0 else 1) < 30)) = true := by intro _; rfl) (hline : (apos.endLine == pos.line) = true := by rfl) (hu : args.all unstarred = true := by kernel_rfl) :
    Sim G k sc (.Call (.Attribute o name apos) args [] pos) (eMeth F f fa) := by
  intro cx ok ρ S s r Q E out
  refine wpAny_Call_method (hbase _) (hfew _) hline PySem.F.plainAttrs_str slot hty ?_
  refine ho cx ok ρ S s r _ _ ?_
  unfold eMeth at out
  cases hf : f ρ with
  | stuck => rw [hf] at out; exact out.elim
  | exc C ρ' => rw [hf] at out; exact out
  | ok a ρ₁ =>
    rw [hf] at out
    simp only [Res.bind] at out
    intro v h₁ t₁ S₁ r₁ j₁ x₁ v₁
    split at out
    · rename_i x hx
      obtain ⟨u, rfl⟩ := (BVal.rb j₁ r₁ hx).str
      refine ⟨typeIs_str _ _ _, (fun _ e => by cases e), ?_⟩
      refine callWith_plain (fun a e => by cases e) (star_plain args hu) (evalArgs_any hu ?_)
      refine ha pos cx ok ρ₁ S₁ { s with heap := h₁, toks := t₁ } r₁ _ _ ?_
      cases hfa : fa ρ₁ with
      | stuck => rw [hfa] at out; exact out.elim
      | exc C ρ' => rw [hfa] at out; intro e h₂ t₂ S₂ r₂ f₂ x₂; exact out e h₂ t₂ S₂ r₂ (f₂.back x₁) (x₁.trans x₂)
      | ok bs ρ' =>
        rw [hfa] at out
        simp only at out
        intro vs h₂ t₂ S₂ r₂ j₂ x₂ v₂
        split at out
        · rename_i ds hds
          split at out
          · rename_i t ht
            refine hop cx sc (ok.mono (Nat.zero_le _)) ρ' S₂ { s with heap := h₂, toks := t₂ } (.str x u :: vs) (.str x :: ds) t r₂ (.cons (.of (.str _ _)) (BVals.all j₂ r₂ hds)) ht Q E ?_
            intro w h₃ t₃ S₃ r₃ j₃ x₃ v₃
            exact out w h₃ t₃ S₃ r₃ j₃ ((x₁.trans x₂).trans x₃) fun q => ((v₁ q).trans (v₂ q)).trans (v₃ q)
          · exact out.elim
        · exact out.elim
    · exact out.elim
noncomputable def sidxI : List D → Option T
  | [.str x, .str y] => if (Builtin.Str.occurrences x y 0 x.length 1).isEmpty then none else some (.sh (.int (Txt.find x y)))
  | _ => none
theorem op_sidx {G : Gd} : OpN G (fun vs => call (.builtin "str.index") vs []) sidxI := by
  intro cx sc ok ρ S s vs ds t rel q e Q E out
  unfold sidxI at e; split at e
  · rename_i x y
    split at e
    · cases e
    · rename_i hne
      cases e
      obtain ⟨v, w, rfl, r1, r2⟩ := q.two
      obtain ⟨_, rfl⟩ := r1.str; obtain ⟨_, rfl⟩ := r2.str
      cases ho : Builtin.Str.occurrences x y 0 x.length 1 with
      | nil => rw [ho] at hne; exact absurd rfl hne
      | cons i rest =>
        have e : Txt.find x y = (i : Int) := by simp [Txt.find, ho]
        refine SC.index ho ?_
        rw [e] at out
        exact out _ s.heap _ S rel (.int _ _) (Ext.refl ..) fun _ => VarSame.refl _ _
  · cases e
noncomputable def strsOf : List D → Option (List Str)
  | [] => some []
  | .str x :: ds => (strsOf ds).map (x :: ·)
  | _ => none
theorem strs_are {S : Addr → Prop} {h : Heap} : ∀ {vs : List Value} {ds : List D} {ys : List Str}, RVs S h vs ds → strsOf ds = some ys → StrsAre vs ys
  | _, _, _, .nil, e => by cases e; exact .nil
  | _, d :: ds, ys, .cons q r, e => by
    cases d with
    | str x =>
      rw [strsOf] at e
      obtain ⟨zs, h1, rfl⟩ := Option.map_eq_some_iff.mp e
      cases q
      exact .cons x _ (strs_are r h1)
    | _ => cases e
noncomputable def joinI : List D → Option T
  | [.str x, .list ds] => (strsOf ds).bind fun ys => if x.length ≤ 16 ∧ (ys.map (·.length)).sum + ys.length ≤ 1048576 then some (.sh (.str (Txt.join x ys))) else none
  | _ => none
theorem op_join {G : Gd} : OpN G (fun vs => call (.builtin "str.join") vs []) joinI := by
  intro cx sc ok ρ S s vs ds t rel q e Q E out
  unfold joinI at e; split at e
  · rename_i x ds
    obtain ⟨ys, hy, e⟩ := Option.bind_eq_some_iff.mp e
    split at e
    · rename_i hs
      cases e
      obtain ⟨v, w, rfl, r1, r2⟩ := q.two
      obtain ⟨_, rfl⟩ := r1.str
      obtain ⟨a, o, us, n, rfl, h1, h2, h3, k⟩ := r2.list
      exact PyProof.Rows.join_listW ⟨o, h1, h2, n, h3⟩ (strs_are k hy) hs.1 hs.2 fun t' tk => out _ s.heap tk S rel (.str _ _) (Ext.refl ..) fun _ => VarSame.refl _ _
    · cases e
  · cases e
end Mine
end

section
set_option Elab.async false
set_option maxRecDepth 100000
namespace Mine
open PySem PyProof.Rows
section
variable {prog : Program} {w : World} {A : Around} {E : Value → Shared → Prop} {s : Shared}
theorem striter_end_ascii {it : Addr} {x : Str} {t : Tok} {i : Nat} {o : Obj} {Q : Option Value → Shared → Prop} (hh : HOk A s.heap) (ho : s.heap.get? it = some o) (hc : o.cls = .type "str_ascii_iterator") (hd : o.data = .fields #[.str x t, .int i 0]) (hx : x.cps[i]? = none) (hni : ∀ v, A.handled = some v → v ≠ .ref it)
    (hQ : ∀ h', KB [it] s.heap h' → Q none { s with heap := h' }) : wpAny (model prog w) A (pyNext (.ref it)) Q E s := by
  have hT : s.TypeIs (.ref it) "str_ascii_iterator" := ⟨o, ho, hc⟩
  unfold pyNext
  refine wpAny_bind (wpAny_attempt (wpAny_callSpecial?_slot (name := Str.ofString "__next__") hT F.slot_str_ascii_iterator_next (wpAny_call_entry F.slot_str_ascii_iterator_next hT F.entry_str_ascii_iterator_next ?_ (F.args_str_ascii_iterator_next_1 _))))
  show wpAny _ _ (field (.ref it) 0 >>= _) _ _ s
  refine wpAny_bind (wpAny_field ho hd (x := .str x t) rfl ?_)
  show wpAny _ _ (field (.ref it) 1 >>= _) _ _ s
  refine wpAny_bind (wpAny_field ho hd (x := .int i 0) rfl ?_)
  simp only [Int.toNat_natCast, hx]
  refine wpAny_bind (wpAny_rule (wpAny_bind (wpAny_setField ho hd (by simp) (wpAny_bind (wpAny_letGo ?_)))))
  have self := Heap.get?_update_self (Obj.mapFields (·.setIfInBounds 0 Value.none)) ho (Obj.isFreed_of_fields (Obj.data_mapFields hd _))
  have oth : ∀ b o, b ≠ it → s.heap.get? b = some o → (s.heap.update it (Obj.mapFields (·.setIfInBounds 0 Value.none))).get? b = some o := fun b o hb e => (Heap.get?_update_other _ _ (Ne.symm hb)).trans e
  show wpAny _ _ (newExc (.type "StopIteration") [] >>= fun e => raiseNew e) _ _ _
  refine wp_stop (A := A.in1) (s := { s with heap := s.heap.update it (Obj.mapFields (·.setIfInBounds 0 Value.none)) }) (fun v e => ?_) fun h' e k he => ?_
  · obtain ⟨a, o', vs, rfl, h1, h2, h3⟩ := hh v e
    exact ⟨a, o', vs, rfl, oth a o' (fun q => hni _ e (by rw [q])) h1, h2, h3⟩
  · obtain ⟨oe, he, hce⟩ := he
    refine wpAny_bind (wpAny_isInstance (T := "StopIteration") (b := true) ⟨_, he, hce⟩ isSubtype_stop ?_)
    exact wpAny_pure (hQ _ ⟨fun b o hb eb => k b o (oth b o (by simpa using hb) eb), fun b hb => by cases List.mem_singleton.mp hb; exact ⟨_, k _ _ self⟩⟩)
theorem striter_end_wide {it : Addr} {x : Str} {t : Tok} {i : Nat} {o : Obj} {Q : Option Value → Shared → Prop} (hh : HOk A s.heap) (ho : s.heap.get? it = some o) (hc : o.cls = .type "str_iterator") (hd : o.data = .fields #[.str x t, .int i 0]) (hx : x.cps[i]? = none) (hni : ∀ v, A.handled = some v → v ≠ .ref it)
    (hQ : ∀ h', KB [it] s.heap h' → Q none { s with heap := h' }) : wpAny (model prog w) A (pyNext (.ref it)) Q E s := by
  have hT : s.TypeIs (.ref it) "str_iterator" := ⟨o, ho, hc⟩
  unfold pyNext
  refine wpAny_bind (wpAny_attempt (wpAny_callSpecial?_slot (name := Str.ofString "__next__") hT F.slot_str_iterator_next (wpAny_call_entry F.slot_str_iterator_next hT F.entry_str_iterator_next ?_ (F.args_str_iterator_next_1 _))))
  show wpAny _ _ (field (.ref it) 0 >>= _) _ _ s
  refine wpAny_bind (wpAny_field ho hd (x := .str x t) rfl ?_)
  show wpAny _ _ (field (.ref it) 1 >>= _) _ _ s
  refine wpAny_bind (wpAny_field ho hd (x := .int i 0) rfl ?_)
  simp only [Int.toNat_natCast, hx]
  refine wpAny_bind (wpAny_rule (wpAny_bind (wpAny_setField ho hd (by simp) (wpAny_bind (wpAny_letGo ?_)))))
  have self := Heap.get?_update_self (Obj.mapFields (·.setIfInBounds 0 Value.none)) ho (Obj.isFreed_of_fields (Obj.data_mapFields hd _))
  have oth : ∀ b o, b ≠ it → s.heap.get? b = some o → (s.heap.update it (Obj.mapFields (·.setIfInBounds 0 Value.none))).get? b = some o := fun b o hb e => (Heap.get?_update_other _ _ (Ne.symm hb)).trans e
  show wpAny _ _ (newExc (.type "StopIteration") [] >>= fun e => raiseNew e) _ _ _
  refine wp_stop (A := A.in1) (s := { s with heap := s.heap.update it (Obj.mapFields (·.setIfInBounds 0 Value.none)) }) (fun v e => ?_) fun h' e k he => ?_
  · obtain ⟨a, o', vs, rfl, h1, h2, h3⟩ := hh v e
    exact ⟨a, o', vs, rfl, oth a o' (fun q => hni _ e (by rw [q])) h1, h2, h3⟩
  · obtain ⟨oe, he, hce⟩ := he
    refine wpAny_bind (wpAny_isInstance (T := "StopIteration") (b := true) ⟨_, he, hce⟩ isSubtype_stop ?_)
    exact wpAny_pure (hQ _ ⟨fun b o hb eb => k b o (oth b o (by simpa using hb) eb), fun b hb => by cases List.mem_singleton.mp hb; exact ⟨_, k _ _ self⟩⟩)
end
noncomputable def signsD (x : Str) : List D := x.cps.toList.map fun c => .str ⟨#[c]⟩
section
variable {G : Gd} {A : Around} {tg : Expr}
noncomputable def StrSt (ty : String) (I : Addr) (x : Str) (t : Tok) (i : Nat) (_ : Addr → Prop) (h : Heap) : Prop := ∃ o, h.get? I = some o ∧ o.cls = .type ty ∧ o.data = .fields #[.str x t, .int i 0]
theorem signs_get {x : Str} {i : Nat} {d : D} (h : (signsD x)[i]? = some d) : ∃ c, x.cps[i]? = some c ∧ d = .str ⟨#[c]⟩ := by
  unfold signsD at h
  rw [List.getElem?_map] at h
  obtain ⟨c, h1, rfl⟩ := Option.map_eq_some_iff.mp h
  exact ⟨c, by simpa using h1, rfl⟩
theorem strSt_shape {ty : String} {I : Addr} {x : Str} {t : Tok} (h1 : ty ≠ "tuple") (h2 : ty ≠ "list") (h3 : ty ≠ "range") : ∀ i (S : Addr → Prop) (h : Heap), StrSt ty I x t i S h → ∀ b ∈ [I], ∃ o, h.get? b = some o ∧ Iterish o := fun i S h st b hb => by
  obtain ⟨o, a1, a2, a3⟩ := st
  exact ⟨o, by rw [List.mem_singleton.mp hb]; exact a1, _, _, a2, h1, h2, h3, a3⟩
theorem itK_ascii {I : Addr} (x : Str) (t : Tok) : ItK G A tg I [I] (StrSt "str_ascii_iterator" I x t) (signsD x) where
  shape := strSt_shape (by decide) (by decide) (by decide)
  ext := fun i S h S' h' ⟨o, a1, a2, a3⟩ x => ⟨o, x.exact a1 (.inr (.inr ⟨_, a3⟩)) (.fields a3), a2, a3⟩
  item := fun i S s d Q E E' hd st hQ => by
    obtain ⟨o, a1, a2, a3⟩ := st
    obtain ⟨c, hc, rfl⟩ := signs_get hd
    refine wpAny_pyNext_ascii_item (x := x) (t := t) ⟨o, a1, a2, a3⟩ hc fun h' it' k' => ⟨_, rfl, ?_⟩
    obtain ⟨o', c1, c2, c3⟩ := it'
    exact owned_none (s := { s with heap := h', toks := s.toks + 1 }) c1 c2 c3 (by decide) (hQ _ h' (s.toks + 1) (.str _ _) ⟨o', c1, c2, c3⟩ (KB.of_sameBut k' ⟨o', c1⟩))
  done := fun S s Q E st hh hni hQ => by
    obtain ⟨o, a1, a2, a3⟩ := st
    exact striter_end_ascii hh a1 a2 a3 (by unfold signsD; simp) (fun v e => hni v e I (.head _)) fun h' k => hQ h' s.toks k
  self := fun i S s Q E st hQ => wpAny_pyIter_striter_ascii st hQ
theorem itK_wide {I : Addr} (x : Str) (t : Tok) : ItK G A tg I [I] (StrSt "str_iterator" I x t) (signsD x) where
  shape := strSt_shape (by decide) (by decide) (by decide)
  ext := fun i S h S' h' ⟨o, a1, a2, a3⟩ x => ⟨o, x.exact a1 (.inr (.inr ⟨_, a3⟩)) (.fields a3), a2, a3⟩
  item := fun i S s d Q E E' hd st hQ => by
    obtain ⟨o, a1, a2, a3⟩ := st
    obtain ⟨c, hc, rfl⟩ := signs_get hd
    refine wpAny_pyNext_wide_item (x := x) (t := t) ⟨o, a1, a2, a3⟩ hc fun h' it' k' => ⟨_, rfl, ?_⟩
    obtain ⟨o', c1, c2, c3⟩ := it'
    exact owned_none (s := { s with heap := h', toks := s.toks + 1 }) c1 c2 c3 (by decide) (hQ _ h' (s.toks + 1) (.str _ _) ⟨o', c1, c2, c3⟩ (KB.of_sameBut k' ⟨o', c1⟩))
  done := fun S s Q E st hh hni hQ => by
    obtain ⟨o, a1, a2, a3⟩ := st
    exact striter_end_wide hh a1 a2 a3 (by unfold signsD; simp) (fun v e => hni v e I (.head _)) fun h' k => hQ h' s.toks k
  self := fun i S s Q E st hQ => wpAny_pyIter_striter_wide st hQ
end
noncomputable def eSigns (f : AEnv → Res T) : AEnv → Res (List D) := fun ρ => (f ρ).bind fun t ρ₁ => match t.val with
  | .str x => .ok (signsD x) ρ₁
  | _ => .stuck
theorem simI_str {G : Gd} {k : Nat} {sc : Scope} {tg e : Expr} {f : AEnv → Res T} (h : Sim G k sc e f) : SimI G k sc tg e (eSigns f) := by
  intro cx ok ρ S s r Q E out
  refine (h cx ok ρ S s r).shared _ _ ?_
  unfold eSigns at out
  cases hf : f ρ with
  | stuck => rw [hf] at out; exact out.elim
  | exc C ρ₁ => rw [hf] at out; exact out
  | ok t ρ₁ =>
    rw [hf] at out
    simp only [Res.bind] at out ⊢
    intro v h₁ t₁ S₁ r₁ j₁ x₁ v₁
    have nw : ∀ b ∈ [h₁.objs.size], s.heap.get? b = none := fun b hb => by
      rw [List.mem_singleton.mp hb]
      exact x₁.none (Heap.get?_none_of_le (Nat.le_refl _))
    split at out
    · rename_i x hx
      rw [hx] at j₁
      cases j₁ with
      | str _ u =>
        cases ha : x.cps.all (· < 128) with
        | false =>
          refine wpAny_pyIter_wide (s := { s with heap := h₁, toks := t₁ }) ha ?_
          exact out _ [h₁.objs.size] _ S₁ _ t₁ (Rel.push (s := { s with heap := h₁ }) r₁ _) (itK_wide x u) ⟨_, Heap.get?_push_size _ rfl, rfl, rfl⟩ nw (x₁.trans (ext_push _)) ((v₁ rfl).trans (r₁.same (kp_push _)))
        | true =>
          refine wpAny_pyIter_ascii (s := { s with heap := h₁, toks := t₁ }) ha ?_
          exact out _ [h₁.objs.size] _ S₁ _ t₁ (Rel.push (s := { s with heap := h₁ }) r₁ _) (itK_ascii x u) ⟨_, Heap.get?_push_size _ rfl, rfl, rfl⟩ nw (x₁.trans (ext_push _)) ((v₁ rfl).trans (r₁.same (kp_push _)))
    · exact out.elim
end Mine
end

section
set_option Elab.async false
set_option maxRecDepth 100000
namespace Mine
open PySem PyProof.Rows
noncomputable def strIdx : D → D → Option T
  | .str x, .int i => if (decide (i < -(2 ^ 63 : Int)) || decide (i ≥ 2 ^ 63)) then none else ((seqIndex? i x.length).bind (x.cps[·]?)).map fun c => .sh (.str ⟨#[c]⟩)
  | _, _ => none
theorem sim_SubStr {G : Gd} {k : Nat} {sc : Scope} {value slice : Expr} {pos : Pos} {f g : AEnv → Res Bv} (hl : SimB G k sc value f) (hr : SimB G k sc slice g) (hs : ∀ o i, subscripted slice false o i = operate [o, i] (getItem o i) := by intro _ _; rfl) :
    Sim G k sc (.Subscript value slice pos) (eOp2 strIdx f g) := by
  intro cx ok ρ S s rel
  show Does G cx sc true (do let a ← eval value cx.env; let b ← holding [a] (eval slice cx.env); standAt pos; subscriptTail value slice a b) S s _ _
  refine does_two (K := fun x y ρ₂ => match strIdx x y with | some t => .ok t ρ₂ | none => .stuck) hl hr ok rel fun ρ' S' h' tk v w x y rel' rx ry => ?_
  refine Does.standAt ?_
  split
  · rename_i t ht
    unfold strIdx at ht
    intro Q E out
    split at ht
    · rename_i x i
      split at ht
      · cases ht
      · rename_i hb
        obtain ⟨c, hc, rfl⟩ := Option.map_eq_some_iff.mp ht
        obtain ⟨u, rfl⟩ := rx.str
        obtain ⟨u', rfl⟩ := ry.int
        refine tail_any (s := { s with heap := h', toks := tk }) (typeIs_str _ _ _) PySem.F.slot_str_getitem.lookup ?_ (hs _ _)
        refine PySem.P.getItem_str (by simpa using hb) hc ?_
        exact out _ h' _ S' rel' (.str _ _) (Ext.refl ..) fun _ => VarSame.refl _ _
    · cases ht
  · exact Does.stuck
noncomputable def cutS (x : Str) (lo hi : Option Int) : Str := if (Builtin.Str.strSliceIndices lo hi 1 x.length).length == x.length then x else ⟨((Builtin.Str.strSliceIndices lo hi 1 x.length).filterMap (x.cps[·]?)).toArray⟩
noncomputable def sliceS (x : D) (lo hi : Option Int) : Option T := match x with
  | .str x => if x.length ≤ 1000000 then some (.sh (.str (cutS x lo hi))) else none
  | _ => none
noncomputable def eSliceS (f : AEnv → Res Bv) (g h : AEnv → Res (Option Int)) : AEnv → Res T := fun ρ => (f ρ).bind fun a ρ₁ => (g ρ₁).bind fun lo ρ₂ => (h ρ₂).bind fun hi ρ₃ => match a.get ρ₃ with
  | some x => (match sliceS x lo hi with | some t => .ok t ρ₃ | none => .stuck)
  | none => .stuck
theorem part_is {v : Value} {b : Option Int} (h : IsPart v b) : ∃ l : Option (Int × Tok), v = partValue l ∧ l.map (·.1) = b := by
  cases h with
  | none => exact ⟨none, rfl, rfl⟩
  | int i t => exact ⟨some (i, t), rfl, rfl⟩
theorem sim_SliceS {G : Gd} {k : Nat} {sc : Scope} {value : Expr} {lower upper : Option Expr} {p pos : Pos} {f : AEnv → Res Bv} {g h : AEnv → Res (Option Int)} (hv : SimB G k sc value f) (hl : SimP G k sc lower g) (hu : SimP G k sc upper h) :
    Sim G k sc (.Subscript value (.Slice lower upper none p) pos) (eSliceS f g h) := by
  intro cx ok ρ S s rel
  show Does G cx sc true (do let a ← eval value cx.env; let b ← holding [a] (eval (.Slice lower upper none p) cx.env); standAt pos; subscriptTail value (.Slice lower upper none p) a b) S s _ _
  unfold eSliceS
  refine Does.bind (hv cx ok ρ S s rel) fun a ρ₁ va h₁ t₁ S₁ _ r₁ ja x₁ v₁ => ?_
  intro Q E out
  refine wpAny_bind (wpAny_holding (wpAny_Slice ?_))
  refine hl cx ok ρ₁ S₁ { s with heap := h₁, toks := t₁ } r₁ _ _ ?_
  cases hg : g ρ₁ with
  | stuck => rw [hg] at out; exact out.elim
  | exc C ρ₂ => rw [hg] at out; exact out
  | ok lo ρ₂ =>
    rw [hg] at out
    simp only [Res.bind] at out ⊢
    intro vl h₀ t₀ S₀ r₀ pl x₀ v₀
    refine hu cx ok ρ₂ S₀ { s with heap := h₀, toks := t₀ } r₀ _ _ ?_
    cases hh : h ρ₂ with
    | stuck => rw [hh] at out; exact out.elim
    | exc C ρ₃ => rw [hh] at out; intro e h₂ t₂ S₂ r₂ f₂ x₂; exact out e h₂ t₂ S₂ r₂ (f₂.back x₀) (x₀.trans x₂)
    | ok hi ρ₃ =>
      rw [hh] at out
      simp only at out
      intro vu h₂ t₂ S₂ r₂ pu x₂' v₂'
      have x₂ := x₀.trans x₂'
      have v₂ : true = true → VarSame cx.env h₁ h₂ := fun q => (v₀ q).trans (v₂' q)
      rw [evalPart_none]
      refine wpAny_pure ?_
      refine wpAny_bind (wpAny_standAt ?_)
      have ja₂ : BVal cx sc S₂ h₂ va a := BVal.ext ja x₂ (v₂ rfl)
      split at out
      · rename_i x hx
        have rx := ja₂.rb r₂ hx
        split at out
        · rename_i t ht
          unfold sliceS at ht
          have hsl : subscripted (.Slice lower upper none p) false va (.ref h₂.objs.size) = operate [.ref h₂.objs.size, va] (getItem va (.ref h₂.objs.size)) := rfl
          split at ht
          · rename_i x
            split at ht
            · rename_i hlen
              cases ht
              obtain ⟨u, rfl⟩ := rx.str
              obtain ⟨l, rfl, e1⟩ := part_is pl
              obtain ⟨m, rfl, e2⟩ := part_is pu
              have rp := Rel.push (s := { s with heap := h₂ }) r₂ { cls := .type "slice", data := .fields #[partValue l, partValue m, .none] }
              have xp : Ext S₂ h₂ S₂ _ := ext_push { cls := .type "slice", data := .fields #[partValue l, partValue m, .none] }
              refine tail_any (s := { s with heap := h₂.push { cls := .type "slice", data := .fields #[partValue l, partValue m, .none] }, toks := t₂ }) (typeIs_str _ _ _) PySem.F.slot_str_getitem.lookup ?_ hsl
              refine wpAny_getItem_str_slice (l := l) (u := m) (st := none) ⟨_, Heap.get?_push_size _ rfl, rfl, rfl⟩ rfl ?_
              unfold sliceMade slicePicked
              unfold cutS at out
              rw [e1, e2]
              show (if ((1 : Int) == 1 && (Builtin.Str.strSliceIndices lo hi 1 x.length).length == x.length) = true then Made.val (.str x u) else Made.str ⟨((Builtin.Str.strSliceIndices lo hi 1 x.length).filterMap (x.cps[·]?)).toArray⟩).post Q _
              by_cases hw : ((Builtin.Str.strSliceIndices lo hi 1 x.length).length == x.length) = true
              · rw [if_pos (by rw [hw]; rfl)]
                rw [if_pos hw] at out
                exact out _ _ t₂ S₂ rp (.str _ _) (x₂.trans xp) fun q => (v₂ q).trans (r₂.same (kp_push _))
              · rw [if_neg (by simpa using hw)]
                rw [if_neg hw] at out
                refine ⟨?_, out _ _ _ S₂ rp (.str _ _) (x₂.trans xp) fun q => (v₂ q).trans (r₂.same (kp_push _))⟩
                have h1 := indices_len_le lo hi x.length
                have h2 := List.length_filterMap_le (x.cps[·]?) (Builtin.Str.strSliceIndices lo hi 1 x.length)
                show (List.toArray _).size ≤ sizeLine
                rw [List.size_toArray, sizeLine_eq]
                omega
            · cases ht
          · cases ht
        · exact out.elim
      · exact out.elim
end Mine
end

section
set_option Elab.async false
set_option maxRecDepth 100000
namespace Mine
open PySem PyProof.Rows PySem.Spec
noncomputable def sgn (c : Nat) : Str := ⟨#[c]⟩
theorem strs_of_items : ∀ {l : List Value} {cs : List Nat}, l.length = cs.length → (∀ (j : Nat) v, l[j]? = some v → ∃ c u, cs[j]? = some c ∧ v = .str ⟨#[c]⟩ u) → StrsAre l (cs.map sgn)
  | [], [], _, _ => .nil
  | [], _ :: _, h, _ => by cases h
  | v :: l, [], h, _ => by cases h
  | v :: l, c :: cs, h, k => by
    obtain ⟨c', u, e1, rfl⟩ := k 0 v rfl
    cases e1
    exact .cons (sgn c) u (strs_of_items (by simpa using h) fun j v hv => k (j + 1) v (by simpa using hv))
theorem strs_rvs {S : Addr → Prop} {h : Heap} : ∀ {vs : List Value} {ys : List Str}, StrsAre vs ys → RVs S h vs (ys.map .str)
  | _, _, .nil => .nil
  | _, _, .cons y t r => .cons (.str y t) (strs_rvs r)
theorem signs_eq (x : Str) : signsD x = (x.cps.toList.map sgn).map .str := by unfold signsD; rw [List.map_map]; rfl
noncomputable def listS : List D → Option T
  | [.str x] => if x.length ≤ 1000000 then some (.ow true (.list (signsD x))) else none
  | ds => listI ds
theorem op_listS {G : Gd} (hq : G.quiet = true) : OpN G (fun vs => call (.type "list") vs []) listS := by
  intro cx sc ok ρ S s vs ds t rel q e Q E out
  have hsz : s.heap.get? s.heap.objs.size = none := Heap.get?_none_of_le (Nat.le_refl _)
  unfold listS at e; split at e
  · rename_i x
    split at e
    · rename_i hl
      cases e
      obtain ⟨v, rfl, r⟩ := q.one
      obtain ⟨u, rfl⟩ := r.str
      refine call_list_str (ok.hd hq) x u (fun h' tk acc c' hk hD hacc => ?_) (by show x.length ≤ sizeLine; rw [sizeLine_eq]; omega)
      obtain ⟨r', x', v'⟩ := rel.keepsE hk
      refine out _ h' tk S r' (fresh_list rel (.of_keeps hk) hsz hD ?_) x' fun _ => v'
      rw [signs_eq]
      exact strs_rvs (strs_of_items (by rw [Array.length_toList, Array.length_toList]; exact hacc.1) fun j v hv => by
        obtain ⟨c, u, e1, e2⟩ := hacc.2 j v (by simpa using hv)
        exact ⟨c, u, by simpa using e1, e2⟩)
    · cases e
  · exact op_list hq cx sc ok ρ S s vs ds t rel q e Q E out
noncomputable def sortN (ns : List Nat) : List Nat := ns.mergeSort (fun a b => decide (a ≤ b))
theorem sortN_unique {ns ns' : List Nat} (p : ns'.Perm ns) (s : ns'.Pairwise (· ≤ ·)) : ns' = sortN ns := by
  have hs : (sortN ns).Pairwise (· ≤ ·) := by
    have := List.pairwise_mergeSort (le := fun a b : Nat => decide (a ≤ b)) (fun a b c h1 h2 => by simp at *; omega) (fun a b => by simp; omega) ns
    exact this.imp fun h => by simpa using h
  exact List.Perm.eq_of_pairwise (fun a b _ _ h1 h2 => by omega) s hs (p.trans (List.mergeSort_perm ns _).symm)
theorem lt_sgn (a b : Nat) : ltCps (sgn a).cps.toList (sgn b).cps.toList = decide (a < b) := by
  rw [ltCps_eq]
  refine decide_eq_decide.mpr ⟨fun h => ?_, fun h => .rel h⟩
  cases h with
  | rel h => exact h
  | cons h => cases h
theorem rising_le : ∀ {ns : List Nat} {p : Nat}, risingS (sgn p) (ns.map sgn) = true → (p :: ns).Pairwise (· ≤ ·)
  | [], p, _ => List.pairwise_singleton _ _
  | n :: ns, p, h => by
    have h' : (!ltCps (sgn n).cps.toList (sgn p).cps.toList && risingS (sgn n) (ns.map sgn)) = true := h
    rw [lt_sgn, Bool.and_eq_true_iff] at h'
    have ih := rising_le h'.2
    have hpn : p ≤ n := by
      have := h'.1
      simp at this; exact this
    refine List.pairwise_cons.mpr ⟨fun m hm => ?_, ih⟩
    cases hm with
    | head => exact hpn
    | tail _ hm => exact Nat.le_trans hpn ((List.pairwise_cons.mp ih).1 m hm)
theorem sorted_le {ns : List Nat} (h : sortedS (ns.map sgn) = true) : ns.Pairwise (· ≤ ·) := by
  cases ns with
  | nil => exact .nil
  | cons n ns => exact rising_le h
theorem signs_sorted {ss : List Str} {cs : List Nat} (p : ss.Perm (cs.map sgn)) (h : sortedS ss = true) : ss = (sortN cs).map sgn := by
  have hm : ∀ {l : List Str}, (∀ s ∈ l, ∃ c, s = sgn c) → ∃ ns : List Nat, l = ns.map sgn := by
    intro l
    induction l with
    | nil => exact fun _ => ⟨[], rfl⟩
    | cons s l ih =>
      intro hl
      obtain ⟨c, rfl⟩ := hl s (.head _)
      obtain ⟨ns, rfl⟩ := ih fun t ht => hl t (.tail _ ht)
      exact ⟨c :: ns, rfl⟩
  obtain ⟨ns, rfl⟩ := hm (l := ss) fun s hs => by
    obtain ⟨c, _, rfl⟩ := List.mem_map.mp (p.mem_iff.mp hs)
    exact ⟨c, rfl⟩
  have p' := p.map fun s : Str => s.cps.toList.headD 0
  rw [List.map_map, List.map_map] at p'
  have e : ((fun s : Str => s.cps.toList.headD 0) ∘ sgn) = id := rfl
  rw [e, List.map_id, List.map_id] at p'
  rw [sortN_unique p' (sorted_le h)]
noncomputable def sortedX : List D → Option T
  | [.str x] => if x.length < 64 then some (.ow true (.list (((sortN x.cps.toList).map sgn).map .str))) else none
  | ds => sortedI ds
section
variable {prog : Program} {w : World} {A : Around} {E : Value → Shared → Prop} {s : Shared}
theorem sorted_text {x : Str} {t : Tok} {Q : Value → Shared → Prop} (hh : A.handled = none) (h64 : x.length < 64)
    (h : ∀ (h' : Heap) (tk : Nat) (a : Addr) (e : Nat) (out : Array Value), (∀ b o, s.heap.get? b = some o → h'.get? b = some o) → s.heap.get? a = none → h'.get? a = some (seqObj "list" out e) → StrsAre out.toList ((sortN x.cps.toList).map sgn) → Q (.ref a) { s with heap := h', toks := tk }) :
    wpAny (model prog w) A (call (.builtin "sorted") [.str x t]) Q E s := by
  refine Calls.call_function_entry kind_sorted plain_sorted entry_sorted (args_sorted1 _) ?_
  unfold Builtin.«sorted»
  refine wpAny_bind (m := checkCount "sorted" 1 1 _) (wpAny_pure ?_)
  refine wpAny_bind (wpAny_collect_str (A := A.in1) hh x t (fun s' acc hk g1 g2 g3 hacc => ?_) (by show x.length ≤ sizeLine; rw [sizeLine_eq]; omega))
  obtain ⟨h₁, gs, dr, tk, os⟩ := s'
  cases g1; cases g2; cases g3
  have hS : StrsAre acc.toList (x.cps.toList.map sgn) := strs_of_items (by rw [Array.length_toList, Array.length_toList]; exact hacc.1) fun j v hv => by
    obtain ⟨c, u, e1, e2⟩ := hacc.2 j v (by simpa using hv)
    exact ⟨c, u, by simpa using e1, e2⟩
  have hsz : acc.size < 64 := by rw [hacc.1]; exact h64
  refine wpAny_bind (wpAny_newList ?_ (by rw [Array.length_toList, sizeLine_eq]; omega))
  have hoL : (h₁.push (seqObj "list" acc.toList.toArray 0)).get? h₁.objs.size = some (seqObj "list" acc.toList.toArray 0) := Heap.get?_push_size _ rfl
  refine wpAny_bind (wpAny_holding (wpAny_call_entry slot_list_sort ⟨_, hoL, rfl⟩ entry_list_sort (list_sort_treeK strKind_oneLt hoL hS.keysOf (fun v₁ v₂ rest e => keyKind_strs (by rw [← e]; exact hS)) (by simpa using hsz) fun st' a1 a2 => ⟨_, rfl, ?_⟩) (args_list_sort _)))
  obtain ⟨ss', b1, b2, b3⟩ := sorted_out_str hS a1 a2
  rw [signs_sorted b2 b3] at b1
  obtain ⟨e, he⟩ := sortedHeap_at (out := (arrOf st').map (·.2)) hoL
  have hn : s.heap.get? h₁.objs.size = none := by
    cases q : s.heap.get? h₁.objs.size with
    | none => rfl
    | some o => have := Heap.lt_size (hk _ _ q); exact absurd this (Nat.lt_irrefl _)
  refine wpAny_pure ⟨_, rfl, h _ tk _ e _ (fun b o eb => ?_) hn he b1⟩
  have hlt := Heap.lt_size (hk b o eb)
  rw [sortedHeap_old (Nat.ne_of_lt hlt) (by rw [size_push']; exact Nat.lt_succ_of_lt hlt)]
  exact Heap.get?_push_of_some _ (hk b o eb)
end
theorem op_sortedX {G : Gd} (hq : G.quiet = true) : OpN G (fun vs => call (.builtin "sorted") vs []) sortedX := by
  intro cx sc ok ρ S s vs ds t rel q e Q E out
  unfold sortedX at e; split at e
  · rename_i x
    split at e
    · rename_i hl
      cases e
      obtain ⟨v, rfl, r⟩ := q.one
      obtain ⟨u, rfl⟩ := r.str
      refine sorted_text (ok.hd hq) hl fun h' tk a e ot hk hb he i1 => ?_
      obtain ⟨r', x', v'⟩ := rel.keepsE hk
      exact out _ h' tk S r' (fresh_list rel (.of_keeps hk) hb he (strs_rvs i1)) x' fun _ => v'
    · cases e
  · exact op_sorted cx sc ok ρ S s vs ds t rel q e Q E out
end Mine
end

section
set_option Elab.async false
set_option maxRecDepth 100000
namespace Mine
open PySem PySem.W PyProof.Rows
theorem ints_of_items {R : WRecords} : ∀ {xs : List WData}, WShape.hasItems R xs .int = true → ∃ ns : List Int, xs = ns.map .int
  | [], _ => ⟨[], rfl⟩
  | x :: xs, h => by
    rw [WShape.hasItems, Bool.and_eq_true_iff] at h
    obtain ⟨ns, rfl⟩ := ints_of_items h.2
    cases x with
    | int i => exact ⟨i :: ns, rfl⟩
    | _ => exact Bool.noConfusion (show false = true from h.1)
theorem law_args {l : OpenLaw} {args : List WData} {n : Nat} (hm : l.most = some n) (hb : l.bound = none) (h : l.row.toRowW.claim.pre args = true) : ∃ ns : List Int, args = [.list (ns.map .int)] ∧ ns.length ≤ n := by
  obtain ⟨h1, h2⟩ := pre_splitW h
  have e1 : l.row.toRowW.args = [.list .int] := rfl
  rw [e1] at h1
  obtain ⟨d, r, rfl, hd, hr⟩ := hasAllW_cons h1
  have hr0 : r = [] := by
    cases r with
    | nil => rfl
    | cons a b => exact Bool.noConfusion (show false = true from hr)
  subst hr0
  have hlist : ∃ xs, d = .list xs ∧ WShape.hasItems l.row.toRowW.records xs .int = true := by
    cases d with
    | list xs =>
      have h' : (WShape.hasItems l.row.toRowW.records xs .int || false) = true := hd
      rw [Bool.or_false] at h'
      exact ⟨xs, rfl, h'⟩
    | _ => exact Bool.noConfusion (show false = true from hd)
  obtain ⟨xs, rfl, hx⟩ := hlist
  obtain ⟨ns, rfl⟩ := ints_of_items hx
  refine ⟨ns, rfl, ?_⟩
  have e2 : l.row.toRowW.pre = .and (.not (.lt (.lit (.int n)) (.len (.arg 0)))) (.lit (.bool true)) := by
    show l.pre = _
    unfold OpenLaw.pre
    rw [hm, hb]
  rw [e2] at h2
  have h3 := (holds_andW h2).1
  by_cases hlt : (n : Int) < (ns.map WData.int).length
  · exfalso
    have key : WTm.holds l.row.toRowW.records (.not (.lt (.lit (.int n)) (.len (.arg 0)))) { args := [.list (ns.map .int)] } = (match (some (WData.bool (!(decide ((n : Int) < (ns.map WData.int).length)))) : Option WData) with | some (.bool true) => true | _ => false) := rfl
    rw [decide_eq_true hlt] at key
    exact Bool.noConfusion (key.symm.trans h3)
  · rw [List.length_map] at hlt; omega
theorem ints_reads {R : WRecords} {cl : Str → Option Addr} {S : Addr → Prop} {h : Heap} : ∀ {ns : List Int} {vs : List Value} {as : List Addr}, ReadsAllW R cl h vs (ns.map .int) as → RVs S h vs (ns.map .int) ∧ as = []
  | [], _, _, r => by cases r; exact ⟨.nil, rfl⟩
  | n :: ns, _, _, r => by
    cases r with
    | cons r1 r2 =>
      cases r1
      obtain ⟨q, rfl⟩ := ints_reads r2
      exact ⟨.cons (.int _ _) q, rfl⟩
theorem law_end {l : OpenLaw} {w : World} {s₁ : Shared} {mg mb : Str → Option Value} {K : Frag} {a : Addr} {k : Nat} {F : List D → FOut} {args : List WData} {vals : List Value} {as : List Addr} {R : WRecords} {cl cl' : Str → Option Addr} {mean : ExcName → Option Value} (hF : FnOK ⟨l.row.toRowW.prog, w, s₁.heap, mg, mb, K, true⟩ k (.ref a) F) (hk : k ≤ 500) (hg : s₁.gens = #[])
    {n : Nat} (hm : l.most = some n) (hb : l.bound = none) (hpre : l.row.toRowW.claim.pre args = true) (hrd : ReadsAllW R cl s₁.heap vals args as) (hlaw : ∀ ns : List Int, ns.length ≤ n → F [.list (ns.map .int)] = .ok (.sh (.bool true))) :
    wpAny (model l.row.toRowW.prog w) callerA (call (.ref a) vals) (fun v s' => GoodWG l.row.toRowW.claim cl' mean args s₁ (.ok (.ret v)) s') (fun e s' => GoodWG l.row.toRowW.claim cl' mean args s₁ (.error e) s') s₁ := by
  obtain ⟨ns, rfl, hn⟩ := law_args hm hb hpre
  cases hrd with
  | cons r1 r2 =>
    cases r2
    obtain ⟨b, vs, as', rfl, il, ri, _⟩ := readsW_list_inv r1
    obtain ⟨o, h1, h2, m, h3⟩ := il
    obtain ⟨q, _⟩ := ints_reads (S := fun x => x = b) ri
    refine wpAny_call ?_
    refine hF callerA [] (fun x => x = b) s₁ [.ref b] [.list (ns.map .int)] ?_ rfl (fun _ => rfl) (fun v e => by cases e) (fun env he => by cases he) (fun _ _ e => e) (fun x hx => ⟨o, by rw [hx]; exact h1⟩) (.cons (.list rfl h1 h2 h3 q) .nil) _ ?_
    · constructor
      · show 1 + claimMargin + k ≤ 900
        have : claimMargin = 300 := rfl
        omega
      · show 4 + 8 * k ≤ 9000
        omega
    · rw [hlaw ns hn]
      intro v h' tk S' kp hB _ _ _ ret
      cases ret
      refine ⟨.inl ⟨.bool true, .bool true, [], rfl, fun _ => rfl, .bool true, ?_, fun _ => ⟨.nil, fun _ hx => by cases hx⟩⟩, .of_keep hB, rfl, ?_⟩
      · show (WShape.has l.row.toRowW.records (.bool true) .bool && WTm.holds l.row.toRowW.records (.eq .res (.lit (.bool true))) { args := [.list (ns.map .int)], res := some (.bool true), after := [.list (ns.map .int)] }) = true
        have e1 : same (WData.bool true) (WData.bool true) = true := by first | rfl | exact same_self _ | decide | simp [same]
        have e2 : WTm.holds l.row.toRowW.records (.eq .res (.lit (.bool true))) { args := [.list (ns.map .int)], res := some (.bool true), after := [.list (ns.map .int)] } = (match (some (WData.bool (same (WData.bool true) (WData.bool true))) : Option WData) with | some (.bool true) => true | _ => false) := rfl
        rw [e1] at e2
        rw [e2]; rfl
      · show AllBare s₁.gens
        rw [hg]
        exact .of_eq rfl
end Mine
end

section
set_option Elab.async false
set_option maxRecDepth 100000
namespace Mine
open PySem
theorem compN_step {b : D → AEnv → Option AEnv} {t : AEnv → Res Bool} {f : AEnv → Res T} {ρ₀ : AEnv} {q : D → Bool} {g : D → D} : ∀ (ds acc : List D), (∀ d ∈ ds, ∃ ρ₁ ρ₂, b d ρ₀ = some ρ₁ ∧ t ρ₁ = .ok (q d) ρ₂ ∧ (q d = true → ∃ v ρ₃, f ρ₂ = .ok v ρ₃ ∧ v.val = g d)) → acc.length + ds.length ≤ 1000000 → compN b t f ρ₀ ds acc = some (acc ++ (ds.filter q).map g)
  | [], acc, _, _ => by simp [compN]
  | d :: ds, acc, h, hl => by
    obtain ⟨ρ₁, ρ₂, h1, h2, h3⟩ := h d (.head _)
    have hl' : acc.length + ds.length + 1 ≤ 1000000 := by simpa [Nat.add_assoc] using hl
    rw [compN, h1]
    simp only [h2]
    cases hq : q d with
    | false =>
      simp only
      rw [compN_step ds acc (fun e he => h e (.tail _ he)) (by omega), List.filter_cons_of_neg (by simp [hq])]
    | true =>
      obtain ⟨v, ρ₃, h4, h5⟩ := h3 hq
      simp only [h4]
      rw [if_pos (by omega), compN_step ds _ (fun e he => h e (.tail _ he)) (by simp; omega), List.filter_cons_of_pos (by simp [hq]), h5]
      simp
theorem compN_map {b : D → AEnv → Option AEnv} {f : AEnv → Res T} {ρ₀ : AEnv} {g : D → D} (ds : List D) (h : ∀ d ∈ ds, ∃ ρ₁ v ρ₃, b d ρ₀ = some ρ₁ ∧ f ρ₁ = .ok v ρ₃ ∧ v.val = g d) (hl : ds.length ≤ 1000000) : compN b eAll f ρ₀ ds [] = some (ds.map g) := by
  have := compN_step (b := b) (t := eAll) (f := f) (ρ₀ := ρ₀) (q := fun _ => true) (g := g) ds [] (fun d hd => by
    obtain ⟨ρ₁, v, ρ₃, h1, h2, h3⟩ := h d hd
    exact ⟨ρ₁, ρ₁, h1, rfl, fun _ => ⟨v, ρ₃, h2, h3⟩⟩) (by simpa using hl)
  rw [this, List.nil_append, List.filter_eq_self.mpr fun _ _ => rfl]
noncomputable def iL (ns : List Int) : List D := ns.map .int
noncomputable def nL (ns : List Nat) : List D := ns.map fun (n : Nat) => D.int n
noncomputable def isW : D → Bool
  | .int _ => true
  | _ => false
noncomputable def calm : D → Bool
  | .range .. => false
  | .exc _ => false
  | .glob _ => false
  | _ => true
theorem intsOf_iL (ns : List Int) : intsOf (iL ns) = some ns := by
  induction ns with
  | nil => rfl
  | cons n ns ih => unfold iL at ih ⊢; rw [List.map_cons, intsOf, ih]; rfl
theorem boolsOf_map (bs : List Bool) : boolsOf (bs.map .bool) = some bs := by
  induction bs with
  | nil => rfl
  | cons b bs ih => rw [List.map_cons, boolsOf, ih]; rfl
theorem toPys_iL (ns : List Int) : toPys (iL ns) = some (ns.map .int) := by
  induction ns with
  | nil => rfl
  | cons n ns ih => unfold iL at ih ⊢; rw [List.map_cons, toPys, ih, toPy]; rfl
theorem eqvAll_ints : ∀ (a b : List Int), PyData.eqvAll (a.map .int) (b.map .int) = decide (a = b)
  | [], [] => by simp [PyData.eqvAll]
  | [], _ :: _ => by simp [PyData.eqvAll]
  | _ :: _, [] => by simp [PyData.eqvAll]
  | x :: a, y :: b => by
    have e : (x == y) = decide (x = y) := by by_cases h : x = y <;> simp [h]
    simp [PyData.eqvAll, PyData.eqv, eqvAll_ints a b, e]
theorem canLay_ints : ∀ (a : List Int), PyData.canLayAll0 (a.map .int) = true
  | [] => by simp [PyData.canLayAll0]
  | x :: a => by simp [PyData.canLayAll0, PyData.canLay0, canLay_ints a]
theorem depth_ints : ∀ (a : List Int), PyData.depthAll (a.map .int) ≤ 1
  | [] => by simp [PyData.depthAll]
  | x :: a => by
    have := depth_ints a
    simp [PyData.depthAll, PyData.depth]; omega
theorem shaped_list (a : List Int) : SeqAt.shaped (.list (a.map .int)) = true := by
  have := depth_ints a
  unfold SeqAt.shaped
  simp [PyData.canLay0, canLay_ints, PyData.depth]; omega
theorem shaped_tup (a : List Int) : SeqAt.shaped (.tuple (a.map .int)) = true := by
  have := depth_ints a
  unfold SeqAt.shaped
  simp [PyData.canLay0, canLay_ints, PyData.depth]; omega
noncomputable def eqB (a b : List Int) : Bool := decide (a = b)
theorem eqB_true {a b : List Int} : eqB a b = true ↔ a = b := by unfold eqB; simp
theorem eqB_false {a b : List Int} : eqB a b = false ↔ a ≠ b := by unfold eqB; simp
noncomputable def eqZ (a b : Int) : Bool := decide (a = b)
theorem eqZ_true {a b : Int} : eqZ a b = true ↔ a = b := by unfold eqZ; simp
theorem eqZ_false {a b : Int} : eqZ a b = false ↔ a ≠ b := by unfold eqZ; simp
theorem eqI_list (a b : List Int) : eqI (.list (iL a)) (.list (iL b)) = some (.sh (.bool (eqB a b))) := by
  unfold eqI eqD eqB
  simp [toPy, toPys_iL, shaped_list, PyData.eqv, eqvAll_ints]
theorem neI_tup (a b : List Int) : neI (.tup (iL a)) (.tup (iL b)) = some (.sh (.bool !(eqB a b))) := by
  unfold neI eqD eqB
  simp [toPy, toPys_iL, shaped_tup, PyData.eqv, eqvAll_ints]
theorem eqI_int (a b : Int) : eqI (.int a) (.int b) = some (.sh (.bool (eqZ a b))) := by
  unfold eqI eqD eqZ
  have e : (a == b) = decide (a = b) := by by_cases h : a = b <;> simp [h]
  simp [toPy, SeqAt.shaped, PyData.canLay0, PyData.depth, PyData.eqv, e]
noncomputable def rng (n : Nat) : List Int := (List.range n).map fun (i : Nat) => (i : Int)
theorem rng_length (n : Nat) : (rng n).length = n := by simp [rng]
theorem rangeL_rng (n : Nat) : rangeL 0 n 1 = iL (rng n) := by
  unfold rangeL rangeN iL rng
  rw [rangeSize_one]
  have : (if (0 : Int) < n then (n : Int) - 0 else 0).toNat = n := by split <;> omega
  rw [this]
  simp
theorem rangeFit_rng (n : Nat) (h : n ≤ 1000000) : rangeFit 0 n 1 = true := by
  unfold rangeFit
  rw [small_one (by omega) (by omega) (by omega) (by omega), rangeSize_one]
  simp only [Bool.true_and, Bool.and_eq_true, decide_eq_true_eq]
  constructor <;> split <;> omega
theorem sortI_perm (ns : List Int) : (sortI ns).Perm ns := List.mergeSort_perm ns _
theorem rng_sorted (n : Nat) : (rng n).Pairwise (· ≤ ·) := by
  unfold rng
  rw [List.pairwise_map]
  exact (List.pairwise_lt_range (n := n)).imp fun h => by omega
theorem sortI_rng {ns : List Int} {n : Nat} : sortI ns = rng n ↔ ns.Perm (rng n) := by
  constructor
  · intro h; rw [← h]; exact (sortI_perm ns).symm
  · intro h; exact (sort_unique h.symm (rng_sorted n)).symm
section
variable {f g : AEnv → Res Fl} {t : AEnv → Res Bool} {e : AEnv → Res T} {ρ ρ₁ : AEnv} {v : T} {C : PySem.Addr} {i : Nat}
end
end Mine
end

section
set_option Elab.async false
set_option maxRecDepth 100000
set_option linter.unusedSimpArgs false
namespace Mine
open PySem
set_option autoImplicit true
set_option relaxedAutoImplicit true
inductive Xk : Res T → Res Bv → Prop
  | ok (h : T.val t = d) : Xk (.ok t ρ) (.ok (.val d) ρ)
  | exc : Xk (.exc C ρ) (.exc C ρ)
inductive Xl (F : D → Option T) : Res Bv → Res T → Prop
  | ok (h : Bv.get ρ a = some x) (h2 : F x = some t) : Xl F (.ok a ρ) (.ok t ρ)
  | exc : Xl F (.exc C ρ) (.exc C ρ)
inductive Xn (F : D → D → Option T) (a : Bv) : Res Bv → Res T → Prop
  | ok (h : Bv.get ρ a = some x) (h2 : Bv.get ρ b = some y) (h3 : F x y = some t) : Xn F a (.ok b ρ) (.ok t ρ)
  | exc : Xn F a (.exc C ρ) (.exc C ρ)
inductive Xm (F : D → D → Option T) (g : AEnv → Res Bv) : Res Bv → Res T → Prop
  | ok (h : g ρ = r) (h2 : Xn F a r rT) : Xm F g (.ok a ρ) rT
  | exc : Xm F g (.exc C ρ) (.exc C ρ)
inductive Xo (F : List D → Option T) : Res (List Bv) → Res T → Prop
  | ok (h : getAll ρ bs = some ds) (h2 : F ds = some t) : Xo F (.ok bs ρ) (.ok t ρ)
  | exc : Xo F (.exc C ρ) (.exc C ρ)
inductive Xp (F : List D → FOut) : Res (List Bv) → Res T → Prop
  | ok {o : FOut} (h : getAll ρ bs = some ds) (h2 : F ds = o) (h3 : callEnd bs ρ o = rT) : Xp F (.ok bs ρ) rT
  | exc : Xp F (.exc C ρ) (.exc C ρ)
inductive Xq (b : Bv) : Res (List Bv) → Res (List Bv) → Prop
  | ok : Xq b (.ok bs ρ) (.ok (b :: bs) ρ)
  | exc : Xq b (.exc C ρ) (.exc C ρ)
inductive Xr (g : AEnv → Res (List Bv)) : Res Bv → Res (List Bv) → Prop
  | ok (h : g ρ = rL) (h2 : Xq b rL rL') : Xr g (.ok b ρ) rL'
  | exc : Xr g (.exc C ρ) (.exc C ρ)
inductive Xs (d : D) : Res (List D) → Res (List D) → Prop
  | ok : Xs d (.ok ds ρ) (.ok (d :: ds) ρ)
  | exc : Xs d (.exc C ρ) (.exc C ρ)
inductive Xu (g : AEnv → Res (List D)) : Res T → Res (List D) → Prop
  | ok (h : T.val t = d) (h : g ρ = rD) (h2 : Xs d rD rD') : Xu g (.ok t ρ) rD'
  | exc : Xu g (.exc C ρ) (.exc C ρ)
inductive Xv : Res (List D) → Res T → Prop
  | ok (h : List.length ds ≤ 1000000) : Xv (.ok ds ρ) (.ok (.sh (.tup ds)) ρ)
  | exc : Xv (.exc C ρ) (.exc C ρ)
inductive Xw : Res (List D) → Res T → Prop
  | ok (h : List.length ds ≤ 1000000) : Xw (.ok ds ρ) (.ok (.ow true (.list ds)) ρ)
  | exc : Xw (.exc C ρ) (.exc C ρ)
inductive Xx : Res Bv → Res Bool → Prop
  | ok (h : Bv.get ρ a = some (.bool c)) : Xx (.ok a ρ) (.ok c ρ)
  | exc : Xx (.exc C ρ) (.exc C ρ)
inductive XJ : Res Bool → Res Bool → Prop
  | t : XJ (.ok true ρ) (.ok false ρ)
  | f : XJ (.ok false ρ) (.ok true ρ)
  | exc : XJ (.exc C ρ) (.exc C ρ)
inductive XK (g : AEnv → Res Bool) : Res Bool → Res Bool → Prop
  | t (h : g ρ = rB) : XK g (.ok true ρ) rB
  | f : XK g (.ok false ρ) (.ok false ρ)
  | exc : XK g (.exc C ρ) (.exc C ρ)
inductive XM (g : AEnv → Res Bool) : Res Bool → Res Bool → Prop
  | t : XM g (.ok true ρ) (.ok true ρ)
  | f (h : g ρ = rB) : XM g (.ok false ρ) rB
  | exc : XM g (.exc C ρ) (.exc C ρ)
inductive Xy (F : D → D → Option T) (a : Bv) : Res Bv → Res Bool → Prop
  | ok (h : Bv.get ρ a = some x) (h2 : Bv.get ρ b = some y) (h3 : F x y = some (.sh (.bool c))) : Xy F a (.ok b ρ) (.ok c ρ)
  | exc : Xy F a (.exc C ρ) (.exc C ρ)
inductive Xz (F : D → D → Option T) (g : AEnv → Res Bv) : Res Bv → Res Bool → Prop
  | ok (h : g ρ = r) (h2 : Xy F a r rB) : Xz F g (.ok a ρ) rB
  | exc : Xz F g (.exc C ρ) (.exc C ρ)
inductive XA (F' : D → D → Option T) (b : Bv) : Res Bv → Res Bool → Prop
  | ok (h : Bv.get ρ b = some y) (h2 : Bv.get ρ a = some z) (h3 : F' y z = some (.sh (.bool c))) : XA F' b (.ok a ρ) (.ok c ρ)
  | exc : XA F' b (.exc C ρ) (.exc C ρ)
inductive XN (F' : D → D → Option T) (h : AEnv → Res Bv) (b : Bv) (ρ : AEnv) : Bool → Res Bool → Prop
  | t (h1 : h ρ = r) (h2 : XA F' b r rB) : XN F' h b ρ true rB
  | f : XN F' h b ρ false (.ok false ρ)
inductive XB (F F' : D → D → Option T) (h : AEnv → Res Bv) (a : Bv) : Res Bv → Res Bool → Prop
  | ok (h1 : Bv.get ρ a = some x) (h2 : Bv.get ρ b = some y) (h3 : F x y = some (.sh (.bool c))) (h4 : XN F' h b ρ c rB) : XB F F' h a (.ok b ρ) rB
  | exc : XB F F' h a (.exc C ρ) (.exc C ρ)
inductive XC (F F' : D → D → Option T) (g h : AEnv → Res Bv) : Res Bv → Res Bool → Prop
  | ok (h1 : g ρ = r) (h2 : XB F F' h a r rB) : XC F F' g h (.ok a ρ) rB
  | exc : XC F F' g h (.exc C ρ) (.exc C ρ)
inductive XO (g : AEnv → Res T) (ρ : AEnv) : BoolOp → Bool → Res T → Prop
  | andT (h : g ρ = rT) : XO g ρ .And true rT
  | andF : XO g ρ .And false (.ok (.sh (.bool false)) ρ)
  | orF (h : g ρ = rT) : XO g ρ .Or false rT
  | orT : XO g ρ .Or true (.ok (.sh (.bool true)) ρ)
inductive XD (op : BoolOp) (g : AEnv → Res T) : Res Bv → Res T → Prop
  | ok (h : Bv.get ρ a = some (.bool c)) (h2 : XO g ρ op c rT) : XD op g (.ok a ρ) rT
  | exc : XD op g (.exc C ρ) (.exc C ρ)
inductive IfEK (f g : AEnv → Res T) : Res Bool → Res T → Prop
  | t (h : f ρ = rT) : IfEK f g (.ok true ρ) rT
  | f (h : g ρ = rT) : IfEK f g (.ok false ρ) rT
  | exc : IfEK f g (.exc C ρ) (.exc C ρ)
inductive XE : Res T → Res (List D) → Prop
  | ok (h : T.val t = d) (h2 : itemsD d = some ds) : XE (.ok t ρ) (.ok ds ρ)
  | exc : XE (.exc C ρ) (.exc C ρ)
inductive EnumK : Res T → Res (List D) → Prop
  | list (h : T.val t = .list ds) : EnumK (.ok t ρ) (.ok (enumL ds) ρ)
  | tup (h : T.val t = .tup ds) : EnumK (.ok t ρ) (.ok (enumL ds) ρ)
  | exc : EnumK (.exc C ρ) (.exc C ρ)
inductive XQ (g : AEnv → Res Fl) : Res Fl → Res Fl → Prop
  | next (h : g ρ = s) : XQ g (.ok .next ρ) s
  | ret : XQ g (.ok (.ret t) ρ) (.ok (.ret t) ρ)
  | brk : XQ g (.ok .brk ρ) (.ok .brk ρ)
  | cont : XQ g (.ok .cont ρ) (.ok .cont ρ)
  | exc : XQ g (.exc C ρ) (.exc C ρ)
inductive XR (f g : AEnv → Res Fl) : Res Bool → Res Fl → Prop
  | t (h : f ρ = s) : XR f g (.ok true ρ) s
  | f (h : g ρ = s) : XR f g (.ok false ρ) s
  | exc : XR f g (.exc C ρ) (.exc C ρ)
inductive XF : Res T → Res Fl → Prop
  | ok : XF (.ok t ρ) (.ok (.ret t) ρ)
  | exc : XF (.exc C ρ) (.exc C ρ)
inductive XG : Res Bv → Res Fl → Prop
  | ok : XG (.ok a ρ) (.ok .next ρ)
  | exc : XG (.exc C ρ) (.exc C ρ)
inductive XH (i : Nat) : Res T → Res Fl → Prop
  | ok (h : List.set ρ i (some t) = ρ') : XH i (.ok t ρ) (.ok .next ρ')
  | exc : XH i (.exc C ρ) (.exc C ρ)
inductive XI (b : D → AEnv → Option AEnv) (body : AEnv → Res Fl) : Res (List D) → Res Fl → Prop
  | ok (h : forN b body ds ρ = s) : XI b body (.ok ds ρ) s
  | exc : XI b body (.exc C ρ) (.exc C ρ)
inductive XS (K : W.Frag) (C' : Addr) (i : Nat) (g : AEnv → Res Fl) : Res Fl → Res Fl → Prop
  | ok : XS K C' i g (.ok fl ρ) (.ok fl ρ)
  | exc (h : (W.mroIn K C (.ref C') == some true) = true) (h2 : List.set ρ i (some (.sh (.exc C))) = ρ₁) (h3 : g ρ₁ = .ok fl ρ₂) (h4 : List.set ρ₂ i none = ρ₃) : XS K C' i g (.exc C ρ) (.ok fl ρ₃)
inductive XV (b : D → AEnv → Option AEnv) (body : AEnv → Res Fl) (ds : List D) : Res Fl → Res Fl → Prop
  | next (h : forN b body ds ρ = s) : XV b body ds (.ok .next ρ) s
  | cont (h : forN b body ds ρ = s) : XV b body ds (.ok .cont ρ) s
  | brk : XV b body ds (.ok .brk ρ) (.ok .next ρ)
  | ret : XV b body ds (.ok (.ret t) ρ) (.ok (.ret t) ρ)
  | exc : XV b body ds (.exc C ρ) (.exc C ρ)
section
variable {ρ ρ₁ ρ₂ ρ₃ ρ' : AEnv} {d x y : D} {m : Bool} {i n : Nat} {t t' : T} {b : Bv} {bs : List Bv} {ds ds' : List D} {u : Option T} {l l' : AEnv}
theorem Qa : (T.sh d).val = d := rfl
theorem Qb : (T.ow m d).val = d := rfl
theorem Qn : (T.sh d).weak = .sh d := rfl
theorem Qo : (T.ow m d).weak = .ow false d := rfl
theorem Qe : List.set (u :: l) 0 v = v :: l := rfl
theorem Qf (h : List.set l n v = l') : List.set (u :: l) (n + 1) v = u :: l' := by rw [List.set_cons_succ, h]
theorem Qc : (u :: l)[0]? = some u := rfl
theorem Qd {v : Option (Option T)} (h : l[n]? = v) : (u :: l)[n + 1]? = v := h
theorem Qg : Bv.get ρ (.val d) = some d := rfl
theorem Qh (h : ρ[i]? = some (some t)) (h2 : t.val = d) : Bv.get ρ (.var i) = some d := by unfold Bv.get; simp only [h, h2]
theorem Qi : getAll ρ [] = some [] := rfl
theorem Qj (h : b.get ρ = some d) (h2 : getAll ρ bs = some ds) : getAll ρ (b :: bs) = some (d :: ds) := by rw [getAll, h, h2]
theorem Qk : capI ρ [] = some [] := rfl
theorem Ql {r : List (Option Nat)} (h : capI ρ r = some l) : capI ρ (none :: r) = some (none :: l) := by rw [capI, h]; rfl
theorem Qm {r : List (Option Nat)} (h : ρ[i]? = some (some t)) (h2 : t.weak = t') (h3 : capI ρ r = some l) : capI ρ (some i :: r) = some (some t' :: l) := by rw [capI, h, h3, ← h2]; rfl
theorem Qp (h : ρ[i]? = some (some (.ow true (.list ds)))) (hl : ds.length ≤ 1000000) : ownList ρ i = some ds := by unfold ownList; simp only [h, if_pos hl]
theorem XY (h : bs.all (isShared ρ) = true) : callEnd bs ρ (.ok t) = .ok t ρ := by rw [callEnd, if_pos h]
theorem XZ (h : bs.all (isShared ρ) = false) (h2 : t.val = d) (h3 : listFree d = true) : callEnd bs ρ (.ok t) = .ok (.sh d) ρ := by rw [callEnd, if_neg (by rw [h]; decide), h2, if_pos h3]
theorem Qq {C : Addr} : callEnd bs ρ (.exc C) = .exc C ρ := rfl
end
section
variable {ρ ρ₁ ρ₂ ρ₃ ρ' : AEnv} {d x y z : D} {i : Nat} {t : T} {a b : Bv} {bs : List Bv} {ds ds' : List D} {C : Addr} {c : Bool}
variable {f g h : AEnv → Res Bv} {fT gT : AEnv → Res T} {fa : AEnv → Res (List Bv)} {fd : AEnv → Res (List D)} {tb tc : AEnv → Res Bool} {r : Res Bv} {rT : Res T} {rB rB' : Res Bool} {rL rL' : Res (List Bv)} {rD rD' : Res (List D)}
theorem Qt : eConst d ρ = .ok (.sh d) ρ := rfl
theorem QA (h : ρ[i]? = some (some t)) : eOp i ρ = .ok (.var i) ρ := by unfold eOp; simp only [h]
theorem X0 (h : ρ[i]? = some (some (.sh d))) : eVar i ρ = .ok (.sh d) ρ := by unfold eVar; simp only [h]
theorem X1 (h : ρ[i]? = some (some (.ow true d))) (h2 : List.set ρ i (some (.sh d)) = ρ') : eVar i ρ = .ok (.sh d) ρ' := by unfold eVar; simp only [h, h2]
theorem QB (h1 : fT ρ = rT) (h2 : Xk rT r) : eVal fT ρ = r := by
  unfold eVal; rw [h1]; cases h2 with
  | ok h => simp only [Res.bind, h]
  | exc => rfl
theorem QO {F : D → Option T} (h1 : f ρ = r) (h2 : Xl F r rT) : eOp1 F f ρ = rT := by
  unfold eOp1; rw [h1]; cases h2 with
  | ok h h2 => simp only [Res.bind, h, h2]
  | exc => rfl
theorem QE {F : D → D → Option T} (h1 : f ρ = r) (h2 : Xm F g r rT) : eOp2 F f g ρ = rT := by
  unfold eOp2; rw [h1]; cases h2 with
  | ok h h2 =>
    simp only [Res.bind]; rw [h]
    cases h2 with
    | ok p1 p2 p3 => simp only [p1, p2, p3]
    | exc => rfl
  | exc => rfl
theorem QC {F : List D → Option T} (h1 : fa ρ = rL) (h2 : Xo F rL rT) : eOpN F fa ρ = rT := by
  unfold eOpN; rw [h1]; cases h2 with
  | ok h h2 => simp only [Res.bind, h, h2]
  | exc => rfl
theorem QF {F : List D → FOut} (h1 : fa ρ = rL) (h2 : Xp F rL rT) : eCall F fa ρ = rT := by
  unfold eCall; rw [h1]; cases h2 with
  | ok h h2 h3 => simp only [Res.bind, h, h2, h3]
  | exc => rfl
theorem Qu : eNilB ρ = .ok [] ρ := rfl
theorem QD (h1 : f ρ = r) (h2 : Xr fa r rL) : eConsB f fa ρ = rL := by
  unfold eConsB; rw [h1]; cases h2 with
  | ok h h2 => simp only [Res.bind]; rw [h]; cases h2 <;> rfl
  | exc => rfl
theorem Qv : eNil ρ = .ok [] ρ := rfl
theorem QG (h1 : fT ρ = rT) (h2 : Xu fd rT rD) : eCons fT fd ρ = rD := by
  unfold eCons; rw [h1]; cases h2 with
  | ok p1 p2 p3 => simp only [Res.bind]; rw [p2, p1]; cases p3 <;> rfl
  | exc => rfl
theorem QP (h1 : fd ρ = rD) (h2 : Xv rD rT) : eTup fd ρ = rT := by
  unfold eTup; rw [h1]; cases h2 with
  | ok h => simp only [Res.bind, if_pos h]
  | exc => rfl
theorem QQ (h1 : fd ρ = rD) (h2 : Xw rD rT) : eLst fd ρ = rT := by
  unfold eLst; rw [h1]; cases h2 with
  | ok h => simp only [Res.bind, if_pos h]
  | exc => rfl
theorem QH (h1 : f ρ = r) (h2 : Xx r rB) : eTruth f ρ = rB := by
  unfold eTruth; rw [h1]; cases h2 with
  | ok h => simp only [Res.bind, h, asB]
  | exc => rfl
theorem QJ (h1 : tb ρ = rB) (h2 : XJ rB rB') : eNot tb ρ = rB' := by
  unfold eNot; rw [h1]; cases h2 <;> rfl
theorem Qw : eAndNil ρ = .ok true ρ := rfl
theorem Qx : eOrNil ρ = .ok false ρ := rfl
theorem QK (h1 : tb ρ = rB) (h2 : XK tc rB rB') : eAnd tb tc ρ = rB' := by
  unfold eAnd; rw [h1]; cases h2 with
  | t h => simpa [Res.bind] using h
  | f => rfl
  | exc => rfl
theorem QL (h1 : tb ρ = rB) (h2 : XM tc rB rB') : eOr tb tc ρ = rB' := by
  unfold eOr; rw [h1]; cases h2 with
  | f h => simpa [Res.bind] using h
  | t => rfl
  | exc => rfl
theorem QI {F : D → D → Option T} (h1 : f ρ = r) (h2 : Xz F g r rB) : eTest2 F f g ρ = rB := by
  unfold eTest2; rw [h1]; cases h2 with
  | ok h h2 =>
    simp only [Res.bind]; rw [h]
    cases h2 with
    | ok p1 p2 p3 => simp only [p1, p2, p3]
    | exc => rfl
  | exc => rfl
theorem QM {F F' : D → D → Option T} (h1 : f ρ = r) (h2 : XC F F' g h r rB) : eChain F F' f g h ρ = rB := by
  unfold eChain; rw [h1]; cases h2 with
  | ok h h2 =>
    simp only [Res.bind]; rw [h]
    cases h2 with
    | ok p1 p2 p3 p4 =>
      simp only [p1, p2, p3]
      cases p4 with
      | t q1 q2 =>
        simp only; rw [q1]
        cases q2 with
        | ok o1 o2 o3 => simp only [o1, o2, o3]
        | exc => rfl
      | f => rfl
    | exc => rfl
  | exc => rfl
theorem QN {op : BoolOp} (h1 : f ρ = r) (h2 : XD op gT r rT) : eBo op f gT ρ = rT := by
  unfold eBo; rw [h1]; cases h2 with
  | ok h h2 =>
    simp only [Res.bind, h, asB]
    cases h2 with
    | andT h => simpa [isAnd] using h
    | andF => rfl
    | orF h => simpa [isAnd] using h
    | orT => rfl
  | exc => rfl
theorem Qy : eNoPart ρ = .ok none ρ := rfl
theorem QR {j : Int} (h1 : f ρ = .ok a ρ₁) (h2 : a.get ρ₁ = some (.int j)) : ePart f ρ = .ok (some j) ρ₁ := by
  unfold ePart; rw [h1]; simp only [Res.bind, h2]
theorem QS {p q : AEnv → Res (Option Int)} {lo hi : Option Int} (h1 : f ρ = .ok a ρ₁) (h2 : p ρ₁ = .ok lo ρ₂) (h3 : q ρ₂ = .ok hi ρ₃) (h4 : a.get ρ₃ = some x) (h5 : sliceI x lo hi = some t) : eSlice f p q ρ = .ok t ρ₃ := by
  unfold eSlice; rw [h1]; simp only [Res.bind]; rw [h2]; simp only; rw [h3]; simp only [h4, h5]
theorem QT (h1 : fT ρ = rT) (h2 : XE rT rD) : eItems fT ρ = rD := by
  unfold eItems; rw [h1]; cases h2 with
  | ok h h2 => simp only [Res.bind, h, h2]
  | exc => rfl
theorem QU {cap : List (Option Nat)} {bd : D → AEnv → Option AEnv} {l ρ₀ : AEnv} {out : List D} (h1 : capI ρ cap = some l) (h2 : fd ρ = .ok ds ρ₁) (h3 : capI ρ₁ cap = some ρ₀) (h4 : compN bd tb fT ρ₀ ds [] = some out) : eCompI cap fd bd tb fT ρ = .ok (.ow true (.list out)) ρ₁ := by
  unfold eCompI; rw [h1]; simp only; rw [h2]; simp only; rw [h3]; simp only; rw [h4]
theorem QV (h1 : ownList ρ i = some ds) (h2 : fT ρ = .ok t ρ₁) (h3 : ownList ρ₁ i = some ds') (h4 : t.val = d) (h5 : List.set ρ₁ i (some (.ow true (.list (ds' ++ [d])))) = ρ') : eAppend i fT ρ = .ok (.sh .none) ρ' := by
  unfold eAppend; rw [h1]; simp only; rw [h2]; simp only [Res.bind]; rw [h3]; simp only; rw [h4, h5]
theorem QW {j : Int} (h1 : ownList ρ i = some ds) (h2 : f ρ = .ok b ρ₁) (h3 : b.get ρ₁ = some (.int j)) (h4 : ownList ρ₁ i = some ds') (h5 : 0 ≤ j ∧ j < ds'.length) (h6 : ds'[j.toNat]? = some d) (h7 : List.set ρ₁ i (some (.ow true (.list (ds'.eraseIdx j.toNat)))) = ρ') : ePop i f ρ = .ok (.sh d) ρ' := by
  unfold ePop; rw [h1]; simp only; rw [h2]; simp only [Res.bind]; rw [h3, h4]; simp only [if_pos h5, h6]; rw [h7]
variable {sf sg : AEnv → Res Fl} {s s' : Res Fl} {fl : Fl}
theorem Qz : sNil ρ = .ok .next ρ := rfl
theorem X2 (h : ρ[i]? = some (some (.sh d))) : sRetVar i ρ = .ok (.ret (.sh d)) ρ := by unfold sRetVar; simp only [h]
theorem X3 (h : ρ[i]? = some (some (.ow true d))) : sRetVar i ρ = .ok (.ret (.ow true d)) ρ := by unfold sRetVar; simp only [h]
theorem QX (h1 : sf ρ = s) (h2 : XQ sg s s') : sSeq sf sg ρ = s' := by
  unfold sSeq; rw [h1]; cases h2 with
  | next h => exact h
  | _ => rfl
theorem QY (h1 : tb ρ = rB) (h2 : XR sf sg rB s) : sIf tb sf sg ρ = s := by
  unfold sIf; rw [h1]; cases h2 with
  | t h => simpa [Res.bind] using h
  | f h => simpa [Res.bind] using h
  | exc => rfl
theorem QZ (h1 : fT ρ = rT) (h2 : XF rT s) : sRet fT ρ = s := by unfold sRet; rw [h1]; cases h2 <;> rfl
theorem Q0 (h1 : f ρ = r) (h2 : XG r s) : sExpr f ρ = s := by unfold sExpr; rw [h1]; cases h2 <;> rfl
theorem Q1 (h1 : fT ρ = rT) (h2 : XH i rT s) : sAssign i fT ρ = s := by
  unfold sAssign; rw [h1]; cases h2 with
  | ok h => rw [← h]; rfl
  | exc => rfl
theorem Q2 (h1 : fd ρ = .ok ds ρ₁) (h2 : ds.length ≤ 1000) : sRaise C fd ρ = .exc C ρ₁ := by unfold sRaise; rw [h1]; simp only [Res.bind, if_pos h2]
theorem Q3 {b : D → AEnv → Option AEnv} (h1 : fd ρ = rD) (h2 : XI b sf rD s) : sFor fd b sf ρ = s := by
  unfold sFor; rw [h1]; cases h2 with
  | ok h => exact h
  | exc => rfl
theorem Q4 {K : W.Frag} {C' : Addr} (h1 : sf ρ = s) (h2 : XS K C' i sg s s') : sTry K C' i sf sg ρ = s' := by
  unfold sTry; rw [h1]; cases h2 with
  | ok => rfl
  | exc h h2 h3 h4 => simp only [h, if_true, h2, h3, h4]
theorem run_of {n : Nat} {is : List Nat} {o : FOut} (ρ : AEnv) (hl : ds.length = is.length) (hi : initI n is ds = ρ) (h : sf ρ = s) (ho : finF s = o) : runI n is sf ds = o := by
  unfold runI; rw [if_pos hl, hi, h, ho]
theorem fin_ret : finF (.ok (.ret t) ρ) = .ok t := rfl
theorem fin_next : finF (.ok .next ρ) = .ok (.sh .none) := rfl
theorem fin_exc : finF (.exc C ρ) = .exc C := rfl
theorem XT {b : D → AEnv → Option AEnv} : forN b sf [] ρ = .ok .next ρ := rfl
theorem XU {b : D → AEnv → Option AEnv} (h1 : b d ρ = some ρ₁) (h2 : sf ρ₁ = s) (h3 : XV b sf ds s s') : forN b sf (d :: ds) ρ = s' := by
  rw [forN, h1]; simp only; rw [h2]; cases h3 with
  | next h => exact h
  | cont h => exact h
  | _ => rfl
end
theorem Qr {α : Type} {n : Nat} : List.length ([] : List α) ≤ n := Nat.zero_le _
theorem Qs {α : Type} {n : Nat} {a : α} {l : List α} (h : l.length ≤ n) : (a :: l).length ≤ n + 1 := Nat.succ_le_succ h
theorem Q5 {a b : Int} (h : b ≠ 0) : modI (.int a) (.int b) = some (.sh (.int (a.fmod b))) := by rw [modI, if_pos h]
theorem Q6 {a b : Int} (h : b ≠ 0 ∧ b.natAbs < 1073741824) : divI (.int a) (.int b) = some (.sh (.int (a.fdiv b))) := by rw [divI, if_pos h]
theorem Q7 {a b : Int} (h : (small a || small b) = true) : mulD (.int a) (.int b) = some (.sh (.int (a * b))) := by rw [mulD, if_pos h]
theorem lenI_tup {ds : List D} (h : ds.length ≤ 1000000) : lenI [.tup ds] = some (.sh (.int ds.length)) := by rw [lenI, if_pos h]
theorem lenI_list {ds : List D} (h : ds.length ≤ 1000000) : lenI [.list ds] = some (.sh (.int ds.length)) := by rw [lenI, if_pos h]
theorem leI_t {a b : Int} (h : a ≤ b) : leI (.int a) (.int b) = some (.sh (.bool true)) := by rw [leI, decide_eq_true h]
theorem leI_f {a b : Int} (h : ¬ a ≤ b) : leI (.int a) (.int b) = some (.sh (.bool false)) := by rw [leI, decide_eq_false h]
theorem ltI_t {a b : Int} (h : a < b) : ltI (.int a) (.int b) = some (.sh (.bool true)) := by rw [ltI, decide_eq_true h]
theorem ltI_f {a b : Int} (h : ¬ a < b) : ltI (.int a) (.int b) = some (.sh (.bool false)) := by rw [ltI, decide_eq_false h]
theorem eqI_t (a : Int) : eqI (.int a) (.int a) = some (.sh (.bool true)) := by rw [eqI_int, eqZ_true.mpr rfl]
theorem eqI_f {a b : Int} (h : a ≠ b) : eqI (.int a) (.int b) = some (.sh (.bool false)) := by rw [eqI_int, eqZ_false.mpr h]
theorem idxD_nat {ds : List D} {i : Int} (h0 : 0 ≤ i) (h1 : i < 2 ^ 63) : idxD ds i = ds[i.toNat]? := by unfold idxD; rw [if_pos h0, if_pos h1]
theorem idxI_list {ds : List D} {i : Int} {d : D} (h0 : 0 ≤ i) (h1 : i < 2 ^ 63) (h : ds[i.toNat]? = some d) : idxI (.list ds) (.int i) = some (.sh d) := by rw [idxI, idxD_nat h0 h1, h]; rfl
theorem forN_ex {b : D → AEnv → Option AEnv} {sf : AEnv → Res Fl} (P : AEnv → List D → Prop) (hs : ∀ ρ d ds, P ρ (d :: ds) → ∃ ρ₁ ρ₂, b d ρ = some ρ₁ ∧ sf ρ₁ = .ok .next ρ₂ ∧ P ρ₂ ds) : ∀ (ds : List D) (ρ : AEnv), P ρ ds → ∃ ρ', forN b sf ds ρ = .ok .next ρ' ∧ P ρ' []
  | [], ρ, hp => ⟨ρ, rfl, hp⟩
  | d :: ds, ρ, hp => by
    obtain ⟨ρ₁, ρ₂, h1, h2, h3⟩ := hs ρ d ds hp
    obtain ⟨ρ', h4, h5⟩ := forN_ex P hs ds ρ₂ h3
    exact ⟨ρ', XU h1 h2 (.next h4), h5⟩
theorem XW {x : D} {l : List D} : idxI (.list (x :: l)) (.int 0) = some (.sh x) := idxI_list (Int.le_refl _) (by decide) rfl
theorem XX {x y : D} {l : List D} : idxI (.list (x :: y :: l)) (.int 1) = some (.sh y) := idxI_list (by decide) (by decide) rfl
theorem small_of {b : Int} (h : b.natAbs < 2 ^ 63) : small b = true := by unfold small; exact decide_eq_true h
theorem cut_from {ds : List D} {p : Nat} (h : p ≤ ds.length) : cutD ds (some (p : Int)) none = ds.drop p := by
  unfold cutD
  simp only [Option.elim, clipAt_nat, Nat.min_eq_left h]
  exact List.take_of_length_le (by rw [List.length_drop]; omega)
noncomputable def Turn (P : AEnv → Prop) (R : Res Fl → Prop) : Res Fl → Prop
  | .ok .next ρ => P ρ
  | .ok .cont ρ => P ρ
  | .ok .brk ρ => R (.ok .next ρ)
  | .ok (.ret t) ρ => R (.ok (.ret t) ρ)
  | .exc C ρ => R (.exc C ρ)
  | .stuck => False
theorem while_ex {t : AEnv → Res Bool} {b : AEnv → Res Fl} (P : Nat → AEnv → Prop) (R : Res Fl → Prop) (hs : ∀ m ρ, P m ρ → (∃ ρ₁, t ρ = .ok false ρ₁ ∧ R (.ok .next ρ₁)) ∨ ∃ ρ₁ r, t ρ = .ok true ρ₁ ∧ b ρ₁ = r ∧ Turn (fun ρ' => ∃ m', m' < m ∧ P m' ρ') R r) : ∀ (n m : Nat) (ρ : AEnv), P m ρ → m < n → ∃ r, sWhile n t b ρ = r ∧ R r
  | 0, _, _, _, h => absurd h (Nat.not_lt_zero _)
  | n + 1, m, ρ, hp, hm => by
    unfold sWhile
    rcases hs m ρ hp with ⟨ρ₁, h1, h2⟩ | ⟨ρ₁, r, h1, h2, h3⟩
    · refine ⟨_, ?_, h2⟩
      rw [whileN, h1]; rfl
    · have key : ∀ ρ₂, (∃ m', m' < m ∧ P m' ρ₂) → ∃ r, whileN t b n ρ₂ = r ∧ R r := fun ρ₂ ⟨m', h4, h5⟩ => while_ex P R hs n m' ρ₂ h5 (by omega)
      rw [whileN, h1]
      simp only [Res.bind, if_true]
      rw [h2]
      cases r with
      | stuck => exact h3.elim
      | exc C ρ₂ => exact ⟨_, rfl, h3⟩
      | ok fl ρ₂ =>
        cases fl with
        | next => exact key _ h3
        | cont => exact key _ h3
        | brk => exact ⟨_, rfl, h3⟩
        | ret v => exact ⟨_, rfl, h3⟩
theorem for_ex {b : D → AEnv → Option AEnv} {sf : AEnv → Res Fl} (P : AEnv → List D → Prop) (R : Res Fl → Prop) (h0 : ∀ ρ, P ρ [] → R (.ok .next ρ)) (hs : ∀ ρ d ds, P ρ (d :: ds) → ∃ ρ₁ r, b d ρ = some ρ₁ ∧ sf ρ₁ = r ∧ Turn (fun ρ' => P ρ' ds) R r) : ∀ (ds : List D) (ρ : AEnv), P ρ ds → ∃ r, forN b sf ds ρ = r ∧ R r
  | [], ρ, hp => ⟨_, rfl, h0 ρ hp⟩
  | d :: ds, ρ, hp => by
    obtain ⟨ρ₁, r, h1, h2, h3⟩ := hs ρ d ds hp
    rw [forN, h1]
    simp only
    rw [h2]
    cases r with
    | stuck => exact h3.elim
    | exc C ρ₂ => exact ⟨_, rfl, h3⟩
    | ok fl ρ₂ =>
      cases fl with
      | next => exact for_ex P R h0 hs ds _ h3
      | cont => exact for_ex P R h0 hs ds _ h3
      | brk => exact ⟨_, rfl, h3⟩
      | ret v => exact ⟨_, rfl, h3⟩
theorem gtI_t {a b : Int} (h : b < a) : gtI (.int a) (.int b) = some (.sh (.bool true)) := by rw [gtI, decide_eq_true h]
theorem gtI_f {a b : Int} (h : ¬ b < a) : gtI (.int a) (.int b) = some (.sh (.bool false)) := by rw [gtI, decide_eq_false h]
theorem geI_t {a b : Int} (h : b ≤ a) : geI (.int a) (.int b) = some (.sh (.bool true)) := by rw [geI, decide_eq_true h]
theorem geI_f {a b : Int} (h : ¬ b ≤ a) : geI (.int a) (.int b) = some (.sh (.bool false)) := by rw [geI, decide_eq_false h]
theorem cut_mid {ds : List D} {p q : Nat} : cutD ds (some (p : Int)) (some (q : Int)) = (ds.drop p).take (q - p) := by
  unfold cutD
  simp only [Option.elim, clipAt_nat]
  by_cases hp : p ≤ ds.length
  · rw [Nat.min_eq_left hp]
    by_cases hq : q ≤ ds.length
    · rw [Nat.min_eq_left hq]
    · rw [Nat.min_eq_right (by omega), List.take_of_length_le (by rw [List.length_drop]; omega), List.take_of_length_le (by rw [List.length_drop]; omega)]
  · rw [List.drop_of_length_le (show ds.length ≤ min p ds.length by omega), List.drop_of_length_le (by omega)]; simp
end Mine
end

section
set_option Elab.async false
set_option maxRecDepth 100000
set_option linter.unusedSimpArgs false
namespace Mine
open PySem
section
variable {ρ ρ₁ ρ₂ ρ₃ : AEnv} {x : Str} {d : D} {a : Bv} {bs : List Bv} {ds : List D} {t : T}
theorem Q8 {F : List D → Option T} {f : AEnv → Res Bv} {fa : AEnv → Res (List Bv)} (h1 : f ρ = .ok a ρ₁) (h2 : a.get ρ₁ = some (.str x)) (h3 : fa ρ₁ = .ok bs ρ₂) (h4 : getAll ρ₂ bs = some ds) (h5 : F (.str x :: ds) = some t) : eMeth F f fa ρ = .ok t ρ₂ := by
  unfold eMeth; rw [h1]; simp only [Res.bind, h2]; rw [h3]; simp only [h4, h5]
theorem Q9 {f : AEnv → Res T} (h1 : f ρ = .ok t ρ₁) (h2 : t.val = .str x) : eSigns f ρ = .ok (signsD x) ρ₁ := by
  unfold eSigns; rw [h1]; simp only [Res.bind, h2]
theorem Xa {f : AEnv → Res Bv} {p q : AEnv → Res (Option Int)} {lo hi : Option Int} (h1 : f ρ = .ok a ρ₁) (h2 : p ρ₁ = .ok lo ρ₂) (h3 : q ρ₂ = .ok hi ρ₃) (h4 : a.get ρ₃ = some d) (h5 : sliceS d lo hi = some t) : eSliceS f p q ρ = .ok t ρ₃ := by
  unfold eSliceS; rw [h1]; simp only [Res.bind]; rw [h2]; simp only; rw [h3]; simp only [h4, h5]
end
noncomputable def txt (cs : List Nat) : Str := ⟨cs.toArray⟩
noncomputable def sg : List Nat := [49, 50, 51, 52, 53, 54, 55, 56, 57, 48, 101, 116]
theorem signs_txt : ("1234567890et" : Str) = txt sg := by decide +kernel
theorem txt_len (cs : List Nat) : (txt cs).length = cs.length := by show cs.toArray.size = _; simp
theorem txt_inj {a b : List Nat} (h : txt a = txt b) : a = b := by
  unfold txt at h; injection h with h; exact (List.toArray_inj h)
theorem txt_app (a b : List Nat) : txt a ++ txt b = txt (a ++ b) := by
  show Str.mk (a.toArray ++ b.toArray) = _; unfold txt; simp
theorem signsD_txt (cs : List Nat) : signsD (txt cs) = (cs.map sgn).map .str := by rw [signs_eq]; unfold txt; simp
theorem addS_txt {a b : List Nat} (h : a.length + b.length ≤ 1000000) : addS (.str (txt a)) (.str (txt b)) = some (.sh (.str (txt (a ++ b)))) := by
  rw [addS, if_pos (by rw [txt_len, txt_len]; exact h), txt_app]
theorem lenS_txt {a : List Nat} (h : a.length ≤ 1000000) : lenS [.str (txt a)] = some (.sh (.int a.length)) := by
  rw [lenS, if_pos (by rw [txt_len]; exact h), txt_len]
theorem strIdx_txt {cs : List Nat} {p c : Nat} (h : cs[p]? = some c) (hl : cs.length ≤ 1000000) : strIdx (.str (txt cs)) (.int p) = some (.sh (.str (sgn c))) := by
  have hp : p < cs.length := (List.getElem?_eq_some_iff.mp h).1
  have e : seqIndex? (p : Int) (txt cs).length = some p := by
    rw [txt_len]; exact seqIndex_pos (by omega) (by omega)
  rw [strIdx, if_neg (by simp; omega), e]
  show (((txt cs).cps[p]?).map _) = _
  have : (txt cs).cps[p]? = some c := by unfold txt; simpa using h
  rw [this]; rfl
theorem sgn_txt (c : Nat) : sgn c = txt [c] := rfl
theorem strOk_txt {cs : List Nat} (h : ∀ c ∈ cs, c < 128) : PyData.strOk (txt cs) = true := by
  unfold PyData.strOk txt
  simp only [List.all_toArray, List.all_eq_true, decide_eq_true_eq]
  intro c hc
  have := h c hc
  omega
theorem eqI_txt {a b : List Nat} (ha : ∀ c ∈ a, c < 128) (hb : ∀ c ∈ b, c < 128) : eqI (.str (txt a)) (.str (txt b)) = some (.sh (.bool (decide (a = b)))) := by
  unfold eqI eqD
  simp only [toPy, SeqAt.shaped, PyData.canLay0, PyData.depth, strOk_txt ha, strOk_txt hb, PyData.eqv]
  simp
  by_cases h : a = b
  · subst h; simp
  · have : txt a ≠ txt b := fun q => h (txt_inj q)
    simp [h, this]
section
variable {ds es : List D} {t : T} {a b : Int} {lo hi st : Int}
theorem Xb (h : lenI [.tup ds] = some t) : lenS [.tup ds] = some t := h
theorem Xc (h : lenI [.list ds] = some t) : lenS [.list ds] = some t := h
theorem Xd (h : addD (.int a) (.int b) = some t) : addS (.int a) (.int b) = some t := h
theorem Xe (h : addD (.list ds) (.list es) = some t) : addS (.list ds) (.list es) = some t := h
theorem Xf (h : addD (.tup ds) (.tup es) = some t) : addS (.tup ds) (.tup es) = some t := h
theorem Xg (h : listI [.tup ds] = some t) : listS [.tup ds] = some t := h
theorem Xh (h : listI [.range lo hi st] = some t) : listS [.range lo hi st] = some t := h
theorem Xi (h : sortedI [.tup ds] = some t) : sortedX [.tup ds] = some t := h
end
theorem Xj {x : Str} : listFree (.str x) = true := by simp [listFree]
end Mine
end

section
set_option Elab.async false
set_option maxRecDepth 100000
set_option linter.unusedSimpArgs false
namespace Mine
open PySem Builtin.Str
theorem has_sgn (cs : List Nat) (c : Nat) : hasD (.str (sgn c)) (.str (txt cs)) = some (decide (c ∈ cs)) := by
  unfold hasD
  simp only
  have := StrLaws.found_one (txt cs) c
  rw [show (sgn c) = ⟨#[c]⟩ from rfl, this]
  unfold txt; simp
theorem in_sgn (cs : List Nat) (c : Nat) : inI (.str (sgn c)) (.str (txt cs)) = some (.sh (.bool (decide (c ∈ cs)))) := by unfold inI; rw [has_sgn]; rfl
theorem notIn_sgn (cs : List Nat) (c : Nat) : notInI (.str (sgn c)) (.str (txt cs)) = some (.sh (.bool !(decide (c ∈ cs)))) := by unfold notInI; rw [has_sgn]; rfl
theorem nodup_idx {cs : List Nat} (hn : cs.Nodup) {i j c : Nat} (hi : cs[i]? = some c) (hj : cs[j]? = some c) : i = j := by
  obtain ⟨h1, e1⟩ := List.getElem?_eq_some_iff.mp hi
  obtain ⟨h2, e2⟩ := List.getElem?_eq_some_iff.mp hj
  exact (List.getElem_inj hn).mp (e1.trans e2.symm)
theorem subAt_one {cs : List Nat} {c i : Nat} (_ : i + 1 ≤ cs.length) (h : subAt (txt cs) (sgn c) i = true) : cs[i]? = some c := by
  have h' : (txt cs).cps.extract i (i + 1) = #[c] := by simpa [subAt, sgn, Str.length] using h
  have h2 : ((txt cs).cps.extract i (i + 1))[0]? = some c := by rw [h']; rfl
  rw [Array.getElem?_extract] at h2
  unfold txt at h2
  simp at h2
  exact h2.2
theorem sidx_sgn {cs : List Nat} (hn : cs.Nodup) {i c : Nat} (hi : cs[i]? = some c) : sidxI [.str (txt cs), .str (sgn c)] = some (.sh (.int i)) := by
  have hm : c ∈ cs := List.mem_of_getElem? hi
  have e1 : (occurrences (txt cs) (sgn c) 0 (txt cs).length 1).isEmpty = false := by
    have := StrLaws.found_one (txt cs) c
    rw [show (⟨#[c]⟩ : Str) = sgn c from rfl] at this
    have h2 : decide (c ∈ (txt cs).cps.toList) = true := decide_eq_true (by unfold txt; simpa using hm)
    rw [h2] at this
    simpa using this
  rw [sidxI, if_neg (by rw [e1]; decide)]
  cases ho : occurrences (txt cs) (sgn c) 0 (txt cs).length 1 with
  | nil => rw [ho] at e1; cases e1
  | cons j rest =>
    have e2 : Txt.find (txt cs) (sgn c) = (j : Int) := by simp [Txt.find, ho]
    have h3 := StrLaws.occ_spec (txt cs) (sgn c) 0 (txt cs).length 1 j (by rw [ho]; exact .head _)
    rw [txt_len] at h3
    have h4 := subAt_one (i := j) h3.1 h3.2
    rw [e2, nodup_idx hn h4 hi]
theorem indices_plain (lo hi : Option Int) (n : Nat) : strSliceIndices lo hi 1 n = (List.range (hi.elim n (clipAt n) - lo.elim 0 (clipAt n))).map (lo.elim 0 (clipAt n) + ·) := by
  rw [← sliceRange_one]
  unfold strSliceIndices
  have c : ∀ i : Int, max 0 (min (if i < 0 then i + (n : Int) else i) (n : Int)) = ((clipAt n i : Nat) : Int) := fun i => (clipAt_cast n i).symm
  cases lo <;> cases hi <;> simp [c]
theorem clip_le (n : Nat) (i : Int) : clipAt n i ≤ n := by
  have := clipAt_cast n i
  omega
theorem cut_txt (cs : List Nat) (lo hi : Option Int) : cutS (txt cs) lo hi = txt ((cs.drop (lo.elim 0 (clipAt cs.length))).take (hi.elim cs.length (clipAt cs.length) - lo.elim 0 (clipAt cs.length))) := by
  unfold cutS
  rw [txt_len, indices_plain]
  generalize ha : lo.elim 0 (clipAt cs.length) = a
  generalize hb : hi.elim cs.length (clipAt cs.length) = b
  have hb' : b ≤ cs.length := by
    rw [← hb]
    cases hi with
    | none => exact Nat.le_refl _
    | some i => exact clip_le _ _
  split
  · rename_i h
    have h' : b - a = cs.length := by simpa using h
    by_cases hz : cs.length = 0
    · have : cs = [] := List.length_eq_zero_iff.mp hz
      subst this; simp
    · rw [show a = 0 by omega, show b - 0 = cs.length by omega]; simp
  · unfold txt
    rw [pick_run]
theorem sliceS_to {cs : List Nat} {k : Nat} (h : cs.length ≤ 1000000) : sliceS (.str (txt cs)) none (some (k : Int)) = some (.sh (.str (txt (cs.take k)))) := by
  rw [sliceS, if_pos (by rw [txt_len]; exact h), cut_txt]
  simp only [Option.elim, clipAt_nat, List.drop_zero, Nat.sub_zero]
  rw [show cs.take (min k cs.length) = cs.take k by
    rcases Nat.le_total k cs.length with q | q
    · rw [Nat.min_eq_left q]
    · rw [Nat.min_eq_right q, List.take_of_length_le (Nat.le_refl _), List.take_of_length_le q]]
theorem sliceS_from {cs : List Nat} {k : Nat} (h : cs.length ≤ 1000000) : sliceS (.str (txt cs)) (some (k : Int)) none = some (.sh (.str (txt (cs.drop k)))) := by
  rw [sliceS, if_pos (by rw [txt_len]; exact h), cut_txt]
  simp only [Option.elim, clipAt_nat]
  rw [show (cs.drop (min k cs.length)).take (cs.length - min k cs.length) = cs.drop k by
    rw [List.take_of_length_le (by rw [List.length_drop]; omega)]
    rcases Nat.le_total k cs.length with q | q
    · rw [Nat.min_eq_left q]
    · rw [Nat.min_eq_right q, List.drop_of_length_le (Nat.le_refl _), List.drop_of_length_le q]]
theorem sliceS_one {cs : List Nat} {k c : Nat} (h : cs.length ≤ 1000000) (hc : cs[k]? = some c) : sliceS (.str (txt cs)) (some (k : Int)) (some ((k : Int) + 1)) = some (.sh (.str (sgn c))) := by
  have hk : k < cs.length := (List.getElem?_eq_some_iff.mp hc).1
  rw [sliceS, if_pos (by rw [txt_len]; exact h), cut_txt, show ((k : Int) + 1) = ((k + 1 : Nat) : Int) by omega]
  simp only [Option.elim, clipAt_nat]
  rw [Nat.min_eq_left (by omega), Nat.min_eq_left (by omega), show k + 1 - k = 1 by omega, List.drop_eq_getElem_cons hk]
  rw [List.getElem?_eq_getElem hk] at hc
  rw [Option.some.inj hc]
  rfl
theorem strjoin_sgn : ∀ cs : List Nat, Str.join "" (cs.map sgn) = txt cs
  | [] => rfl
  | [c] => rfl
  | c :: d :: cs => by
    have ih := strjoin_sgn (d :: cs)
    show (sgn c ++ "" ++ Str.join "" ((d :: cs).map sgn)) = _
    rw [ih, sgn_txt, show ("" : Str) = txt [] by decide +kernel, txt_app, txt_app]; rfl
theorem join_sgn (cs : List Nat) : Txt.join "" (cs.map sgn) = txt cs := by
  rw [← strjoin_sgn]
  exact eq_of_beq (PyProof.Rows.join_plain_closes _ _)
theorem strsOf_sgn (cs : List Nat) : strsOf ((cs.map sgn).map .str) = some (cs.map sgn) := by
  induction cs with
  | nil => rfl
  | cons c cs ih => rw [List.map_cons, List.map_cons, strsOf, ih]; rfl
theorem sum_one (cs : List Nat) : ((cs.map sgn).map (·.length)).sum = cs.length := by
  induction cs with
  | nil => rfl
  | cons c cs ih => rw [List.map_cons, List.map_cons, List.sum_cons, ih, List.length_cons]; show 1 + _ = _; omega
theorem join_txt {cs : List Nat} (h : cs.length ≤ 1000) : joinI [.str "", .list ((cs.map sgn).map .str)] = some (.sh (.str (txt cs))) := by
  rw [joinI, strsOf_sgn, Option.bind_some, if_pos ⟨by decide, by rw [sum_one, List.length_map]; omega⟩, join_sgn]
theorem sorted_txt {cs : List Nat} (h : cs.length < 64) : sortedX [.str (txt cs)] = some (.ow true (.list (((sortN cs).map sgn).map .str))) := by
  rw [sortedX, if_pos (by rw [txt_len]; exact h)]
  unfold txt; simp
end Mine
end

section
open PySem PySem.W PyProof.Rows
set_option Elab.async false
set_option maxRecDepth 100000
set_option maxHeartbeats 80000000
namespace Mine
noncomputable def vw : Program := view PySem.Challenge.pw_uf010040_04 [1, 2, 3, 4, 5, 6, 7, 8, 10, 11, 12, 13, 14, 15, 17, 18, 20, 21, 22, 23, 24, 25, 26, 27, 28, 30, 31, 32, 33, 34, 35, 36, 37, 38, 39, 40, 41, 42, 43]
local macro_rules | `(tactic| o_head $H) => `(tactic| (refine holds_open (q := vw) (loose := []) (Xt := fun s => xlAt vw [] s && recOk [] s) (XP := XL vw []) (Yf := Hook.obs $H) (Ya := Hook.val $H) (YP := Hook.says $H) (N := 8000) ?hl (Hook.of $H) (Hook.keeps $H) (fun s e => xl_of s (Bool.and_eq_true_iff.mp e).1) XL.keeps (by rfl) (by rfl) (by rfl) (fun s e => recFacts_of (Bool.and_eq_true_iff.mp e).2) (by rfl) (by first | assumption | decide +kernel) (by decide +kernel) ⟨rfl, rfl, rfl, rfl, rfl, by decide +kernel⟩ ?hw ?hc; (case hl => (intro w; unfold openEnds topFrom; rw [PySem.W.Fast.te14082659384304107361, PySem.W.Fast.te14364793385576792824, PySem.W.Fast.te4187177175401517315]; kernel_rfl))))
local macro_rules | `(tactic| o_law) => `(tactic| refine holds_law (by decide +kernel) fun said => ?_)
open_top hd for PySem.Challenge.rw_uf010040_04
end Mine
end

section
set_option Elab.async false
set_option maxRecDepth 100000
set_option maxHeartbeats 4000000
namespace Mine
open PySem PyProof.Rows
theorem len1 {P : List Value → Prop} {n : Nat} (H : ∀ a, P [a]) (hn : n = 1 := by kernel_rfl) (vs : List Value) (h : vs.length = n) : P vs := by
  subst hn
  obtain ⟨a, rfl⟩ := List.length_eq_one_iff.mp h
  exact H a
theorem len2 {P : List Value → Prop} {n : Nat} (H : ∀ a b, P [a, b]) (hn : n = 2 := by kernel_rfl) (vs : List Value) (h : vs.length = n) : P vs := by
  subst hn
  cases vs with
  | nil => cases h
  | cons a vs => exact len1 (P := fun vs => P (a :: vs)) (H a) rfl vs (Nat.succ.inj h)
theorem len3 {P : List Value → Prop} {n : Nat} (H : ∀ a b c, P [a, b, c]) (hn : n = 3 := by kernel_rfl) (vs : List Value) (h : vs.length = n) : P vs := by
  subst hn
  cases vs with
  | nil => cases h
  | cons a vs => exact len2 (P := fun vs => P (a :: vs)) (H a) rfl vs (Nat.succ.inj h)
noncomputable def gd (p : Program) (w : World) (B : Heap) (mg mb : Str → Option Value) (q : Bool) : Gd := ⟨p, w, B, mg, mb, hd.heap_1 w.params, q⟩
noncomputable def f_is_whole (K : W.Frag) : AEnv → Res Fl := (sSeq (sRet (eBo .And (eVal (eOpN (isInstI K) (eConsB (eOp 0) (eConsB (eVal (eConst (.glob (.type "int")))) eNilB)))) (eOp1 notI (eVal (eOpN (isInstI K) (eConsB (eOp 0) (eConsB (eVal (eConst (.glob (.type "bool")))) eNilB))))))) sNil)
noncomputable def F_is_whole (K : W.Frag) : List D → FOut := runI 1 [0] (f_is_whole K)
theorem ok_is_whole {p : Program} {w : World} {B : Heap} {mg mb : Str → Option Value} (g : Gr (gd p w B mg mb true)) : FnOK (gd p w B mg mb true) 1 (.ref 118) (F_is_whole (gd p w B mg mb true).K) :=
  fnI g 118 1 [0] (f := f_is_whole (gd p w B mg mb true).K) (simSs_cons (simS_Return (sim_BoolOp (simBo_cons (SimB.of (cB g (.builtin "isinstance") (op_isinstance g.ok) (aC (nB 0) (aC (SimB.of (gB g (.type "int"))) simBs_nil)))) (simBo_one (sim_UnaryOp (SimB.of (cB g (.builtin "isinstance") (op_isinstance g.ok) (aC (nB 0) (aC (SimB.of (gB g (.type "bool"))) simBs_nil)))) op_not))))) simSs_nil) (len1 fun _ => by kernel_rfl)
noncomputable def f_need_bells (K : W.Frag) : AEnv → Res Fl := (sSeq (sIf (eOr (eNot (eTruth (eVal (eCall (F_is_whole K) (eConsB (eOp 0) eNilB))))) (eOr (eNot (eChain leI leI (eVal (eConst (.int 3))) (eOp 0) (eVal (eConst (.int 12))))) eOrNil)) (sSeq (sRaise 37 (eCons (eConst (.str "there are 3 to 12 bells")) eNil)) sNil) sNil) sNil)
noncomputable def F_need_bells (K : W.Frag) : List D → FOut := runI 1 [0] (f_need_bells K)
theorem ok_need_bells {p : Program} {w : World} {B : Heap} {mg mb : Str → Option Value} (g : Gr (gd p w B mg mb true)) : FnOK (gd p w B mg mb true) 2 (.ref 125) (F_need_bells (gd p w B mg mb true).K) :=
  fnI g 125 1 [0] (f := f_need_bells (gd p w B mg mb true).K) (simSs_cons (simS_If (simT_boolOp (simTs_or (simT_not (callT (SimB.of (cF g 118 (ok_is_whole g) (aC (nB 0) simBs_nil))))) (simTs_or (simT_not (chT (SimB.of (gI g 3 321)) (nB 0) (SimB.of (gI g 12 323)) op_le op_le)) simTs_or_nil))) (simSs_cons (rais g 37 F.excBase_ValueError (vC sim_str simVs_nil)) simSs_nil) simSs_nil) simSs_nil) (len1 fun _ => by kernel_rfl)
noncomputable def f_is_row (K : W.Frag) : AEnv → Res Fl := (sSeq (sIf (eOr (eNot (eTruth (eVal (eOpN (isInstI K) (eConsB (eOp 0) (eConsB (eVal (eConst (.glob (.type "tuple")))) eNilB)))))) (eOr (eNot (eChain leI leI (eVal (eConst (.int 3))) (eVal (eOpN lenS (eConsB (eOp 0) eNilB))) (eVal (eConst (.int 12))))) eOrNil)) (sSeq (sRet (eConst (.bool false))) sNil) sNil) (sSeq (sIf (eNot (eTruth (eVal (eOpN allI (eConsB (eVal (eCompI [none, none] (eItems (eVar 0)) (bName 1) eAll (eCall (F_is_whole K) (eConsB (eOp 1) eNilB)))) eNilB))))) (sSeq (sRet (eConst (.bool false))) sNil) sNil) (sSeq (sRet (eOp2 eqI (eVal (eOpN sortedX (eConsB (eOp 0) eNilB))) (eVal (eOpN listS (eConsB (eVal (eOpN rangeI (eConsB (eVal (eOpN lenS (eConsB (eOp 0) eNilB))) eNilB))) eNilB))))) sNil)))
noncomputable def F_is_row (K : W.Frag) : List D → FOut := runI 1 [0] (f_is_row K)
theorem ok_is_row {p : Program} {w : World} {B : Heap} {mg mb : Str → Option Value} (g : Gr (gd p w B mg mb true)) : FnOK (gd p w B mg mb true) 2 (.ref 130) (F_is_row (gd p w B mg mb true).K) :=
  fnI g 130 1 [0] (f := f_is_row (gd p w B mg mb true).K) (simSs_cons (simS_If (simT_boolOp (simTs_or (simT_not (callT (SimB.of (cB g (.builtin "isinstance") (op_isinstance g.ok) (aC (nB 0) (aC (SimB.of (gB g (.type "tuple"))) simBs_nil)))))) (simTs_or (simT_not (chT (SimB.of (gI g 3 321)) (SimB.of (cB g (.builtin "len") op_lenS (aC (nB 0) simBs_nil))) (SimB.of (gI g 12 323)) op_le op_le)) simTs_or_nil))) (simSs_cons (simS_Return sim_bool) simSs_nil) simSs_nil) (simSs_cons (simS_If (simT_not (callT (SimB.of (cB g (.builtin "all") (op_all rfl) (aC (SimB.of (lc [none, none] (simI_of (nV 0)) (tgN 1) simTF_nil (cF g 118 (ok_is_whole g) (aC (nB 1) simBs_nil)))) simBs_nil))))) (simSs_cons (simS_Return sim_bool) simSs_nil) simSs_nil) (simSs_cons (simS_Return (cmpV (SimB.of (cB g (.builtin "sorted") (op_sortedX rfl) (aC (nB 0) simBs_nil))) (SimB.of (cB g (.type "list") (op_listS rfl) (aC (SimB.of (cB g (.type "range") op_range (aC (SimB.of (cB g (.builtin "len") op_lenS (aC (nB 0) simBs_nil))) simBs_nil))) simBs_nil))) op_eq)) simSs_nil))) (len1 fun _ => by kernel_rfl)
noncomputable def f_need_row (K : W.Frag) : AEnv → Res Fl := (sSeq (sIf (eNot (eTruth (eVal (eCall (F_is_row K) (eConsB (eOp 0) eNilB))))) (sSeq (sRaise 49 (eCons (eConst (.str "no row")) eNil)) sNil) sNil) sNil)
noncomputable def F_need_row (K : W.Frag) : List D → FOut := runI 1 [0] (f_need_row K)
theorem ok_need_row {p : Program} {w : World} {B : Heap} {mg mb : Str → Option Value} (g : Gr (gd p w B mg mb true)) : FnOK (gd p w B mg mb true) 3 (.ref 137) (F_need_row (gd p w B mg mb true).K) :=
  fnI g 137 1 [0] (f := f_need_row (gd p w B mg mb true).K) (simSs_cons (simS_If (simT_not (callT (SimB.of (cF g 130 (ok_is_row g) (aC (nB 0) simBs_nil))))) (simSs_cons (rais g 49 F.excBase_ValueError (vC sim_str simVs_nil)) simSs_nil) simSs_nil) simSs_nil) (len1 fun _ => by kernel_rfl)
noncomputable def f_need_places (K : W.Frag) : AEnv → Res Fl := (sSeq (sIf (eOr (eNot (eTruth (eVal (eOpN (isInstI K) (eConsB (eOp 1) (eConsB (eVal (eConst (.glob (.type "tuple")))) eNilB)))))) (eOr (eTest2 eqI (eVal (eOpN lenS (eConsB (eOp 1) eNilB))) (eVal (eConst (.int 0)))) eOrNil)) (sSeq (sRaise 61 (eCons (eConst (.str "no change")) eNil)) sNil) sNil) (sSeq (sAssign 2 (eOp1 negI (eVal (eConst (.int 2))))) (sSeq (sFor (eItems (eVar 1)) (bName 3) (sSeq (sIf (eOr (eNot (eTruth (eVal (eCall (F_is_whole K) (eConsB (eOp 3) eNilB))))) (eOr (eNot (eChain leI leI (eVal (eOp2 addS (eOp 2) (eVal (eConst (.int 2))))) (eOp 3) (eVal (eOp2 subI (eOp 0) (eVal (eConst (.int 2))))))) eOrNil)) (sSeq (sRaise 61 (eCons (eConst (.str "no place of a change")) eNil)) sNil) sNil) (sSeq (sAssign 2 (eVar 3)) sNil))) sNil)))
noncomputable def F_need_places (K : W.Frag) : List D → FOut := runI 4 [0, 1] (f_need_places K)
theorem ok_need_places {p : Program} {w : World} {B : Heap} {mg mb : Str → Option Value} (g : Gr (gd p w B mg mb true)) : FnOK (gd p w B mg mb true) 2 (.ref 144) (F_need_places (gd p w B mg mb true).K) :=
  fnI g 144 4 [0, 1] (f := f_need_places (gd p w B mg mb true).K) (simSs_cons (simS_If (simT_boolOp (simTs_or (simT_not (callT (SimB.of (cB g (.builtin "isinstance") (op_isinstance g.ok) (aC (nB 1) (aC (SimB.of (gB g (.type "tuple"))) simBs_nil)))))) (simTs_or (cmpT (SimB.of (cB g (.builtin "len") op_lenS (aC (nB 1) simBs_nil))) (SimB.of sim_int) op_eq) simTs_or_nil))) (simSs_cons (rais g 61 F.excBase_ValueError (vC sim_str simVs_nil)) simSs_nil) simSs_nil) (simSs_cons (asg 2 (sim_UnaryOp (SimB.of sim_int) op_neg)) (simSs_cons (forS (simI_of (nV 1)) (tgN 3) (simSs_cons (simS_If (simT_boolOp (simTs_or (simT_not (callT (SimB.of (cF g 118 (ok_is_whole g) (aC (nB 3) simBs_nil))))) (simTs_or (simT_not (chT (SimB.of (sim_BinOp (nB 2) (SimB.of sim_int) op_addS)) (nB 3) (SimB.of (sim_BinOp (nB 0) (SimB.of sim_int) op_sub)) op_le op_le)) simTs_or_nil))) (simSs_cons (rais g 61 F.excBase_ValueError (vC sim_str simVs_nil)) simSs_nil) simSs_nil) (simSs_cons (asg 2 (nV 3)) simSs_nil))) simSs_nil))) (len2 fun _ _ => by kernel_rfl)
noncomputable def f_need_change (K : W.Frag) : AEnv → Res Fl := (sSeq (sExpr (eVal (eCall (F_need_bells K) (eConsB (eOp 0) eNilB)))) (sSeq (sExpr (eVal (eCall (F_need_places K) (eConsB (eOp 0) (eConsB (eOp 1) eNilB))))) sNil))
noncomputable def F_need_change (K : W.Frag) : List D → FOut := runI 2 [0, 1] (f_need_change K)
theorem ok_need_change {p : Program} {w : World} {B : Heap} {mg mb : Str → Option Value} (g : Gr (gd p w B mg mb true)) : FnOK (gd p w B mg mb true) 3 (.ref 151) (F_need_change (gd p w B mg mb true).K) :=
  fnI g 151 2 [0, 1] (f := f_need_change (gd p w B mg mb true).K) (simSs_cons (simS_Expr (SimB.of (cF g 125 (ok_need_bells g) (aC (nB 0) simBs_nil))) (fun _ => rfl)) (simSs_cons (simS_Expr (SimB.of (cF g 144 (ok_need_places g) (aC (nB 0) (aC (nB 1) simBs_nil)))) (fun _ => rfl)) simSs_nil)) (len2 fun _ _ => by kernel_rfl)
noncomputable def f_signs_of (K : W.Frag) : AEnv → Res Fl := (sSeq (sRet (eMeth joinI (eVal (eConst (.str ""))) (eConsB (eVal (eCompI [none, none] (eItems (eVar 0)) (bName 1) eAll (eOp2 strIdx (eVal (eConst (.str "1234567890et"))) (eOp 1)))) eNilB))) sNil)
noncomputable def F_signs_of (K : W.Frag) : List D → FOut := runI 1 [0] (f_signs_of K)
theorem ok_signs_of {p : Program} {w : World} {B : Heap} {mg mb : Str → Option Value} (g : Gr (gd p w B mg mb true)) : FnOK (gd p w B mg mb true) 1 (.ref 156) (F_signs_of (gd p w B mg mb true).K) :=
  fnI g 156 1 [0] (f := f_signs_of (gd p w B mg mb true).K) (simSs_cons (simS_Return (sim_meth F.slot_str_join F.type_str_join op_join (SimB.of sim_str) (aC (SimB.of (lc [none, none] (simI_of (nV 0)) (tgN 1) simTF_nil (sim_SubStr (SimB.of (gS g "1234567890et" 374)) (nB 1)))) simBs_nil))) simSs_nil) (len1 fun _ => by kernel_rfl)
noncomputable def f_places_of (K : W.Frag) : AEnv → Res Fl := (sSeq (sIf (eNot (eTruth (eVal (eOpN (isInstI K) (eConsB (eOp 0) (eConsB (eVal (eConst (.glob (.type "str")))) eNilB)))))) (sSeq (sRaise 109 (eCons (eConst (.str "no text")) eNil)) sNil) sNil) (sSeq (sAssign 1 (eLst eNil)) (sSeq (sFor (eSigns (eVar 0)) (bName 2) (sSeq (sIf (eTest2 notInI (eOp 2) (eVal (eConst (.str "1234567890et")))) (sSeq (sRaise 109 (eCons (eConst (.str "no such sign")) eNil)) sNil) sNil) (sSeq (sExpr (eVal (eAppend 1 (eMeth sidxI (eVal (eConst (.str "1234567890et"))) (eConsB (eOp 2) eNilB))))) sNil))) (sSeq (sRetVar 1) sNil))))
noncomputable def F_places_of (K : W.Frag) : List D → FOut := runI 3 [0] (f_places_of K)
theorem ok_places_of {p : Program} {w : World} {B : Heap} {mg mb : Str → Option Value} (g : Gr (gd p w B mg mb true)) : FnOK (gd p w B mg mb true) 1 (.ref 163) (F_places_of (gd p w B mg mb true).K) :=
  fnI g 163 3 [0] (f := f_places_of (gd p w B mg mb true).K) (simSs_cons (simS_If (simT_not (callT (SimB.of (cB g (.builtin "isinstance") (op_isinstance g.ok) (aC (nB 0) (aC (SimB.of (gB g (.type "str"))) simBs_nil)))))) (simSs_cons (rais g 109 F.excBase_ValueError (vC sim_str simVs_nil)) simSs_nil) simSs_nil) (simSs_cons (asg 1 (sim_List simVs_nil)) (simSs_cons (forS (simI_str (nV 0)) (tgN 2) (simSs_cons (simS_If (cmpT (nB 2) (SimB.of (gS g "1234567890et" 374)) op_notIn) (simSs_cons (rais g 109 F.excBase_ValueError (vC sim_str simVs_nil)) simSs_nil) simSs_nil) (simSs_cons (exM (appM 1 (SimM.of (sim_meth F.slot_str_index F.type_str_index op_sidx (SimB.of (gS g "1234567890et" 374)) (aC (nB 2) simBs_nil))))) simSs_nil))) (simSs_cons (retV 1) simSs_nil)))) (len1 fun _ => by kernel_rfl)
noncomputable def f_row_text (K : W.Frag) : AEnv → Res Fl := (sSeq (sExpr (eVal (eCall (F_need_row K) (eConsB (eOp 0) eNilB)))) (sSeq (sRet (eCall (F_signs_of K) (eConsB (eOp 0) eNilB))) sNil))
noncomputable def F_row_text (K : W.Frag) : List D → FOut := runI 1 [0] (f_row_text K)
theorem ok_row_text {p : Program} {w : World} {B : Heap} {mg mb : Str → Option Value} (g : Gr (gd p w B mg mb true)) : FnOK (gd p w B mg mb true) 4 (.ref 170) (F_row_text (gd p w B mg mb true).K) :=
  fnI g 170 1 [0] (f := f_row_text (gd p w B mg mb true).K) (simSs_cons (simS_Expr (SimB.of (cF g 137 (ok_need_row g) (aC (nB 0) simBs_nil))) (fun _ => rfl)) (simSs_cons (simS_Return (cF g 156 (ok_signs_of g) (aC (nB 0) simBs_nil))) simSs_nil)) (len1 fun _ => by kernel_rfl)
noncomputable def f_row_of (K : W.Frag) : AEnv → Res Fl := (sSeq (sAssign 1 (eOpN tupleI (eConsB (eVal (eCall (F_places_of K) (eConsB (eOp 0) eNilB))) eNilB))) (sSeq (sIf (eNot (eTruth (eVal (eCall (F_is_row K) (eConsB (eOp 1) eNilB))))) (sSeq (sRaise 109 (eCons (eConst (.str "a text writes no row")) eNil)) sNil) sNil) (sSeq (sRetVar 1) sNil)))
noncomputable def F_row_of (K : W.Frag) : List D → FOut := runI 2 [0] (f_row_of K)
theorem ok_row_of {p : Program} {w : World} {B : Heap} {mg mb : Str → Option Value} (g : Gr (gd p w B mg mb true)) : FnOK (gd p w B mg mb true) 3 (.ref 177) (F_row_of (gd p w B mg mb true).K) :=
  fnI g 177 2 [0] (f := f_row_of (gd p w B mg mb true).K) (simSs_cons (asg 1 (cB g (.type "tuple") (op_tuple rfl) (aC (SimB.of (cF g 163 (ok_places_of g) (aC (nB 0) simBs_nil))) simBs_nil))) (simSs_cons (simS_If (simT_not (callT (SimB.of (cF g 130 (ok_is_row g) (aC (nB 1) simBs_nil))))) (simSs_cons (rais g 109 F.excBase_ValueError (vC sim_str simVs_nil)) simSs_nil) simSs_nil) (simSs_cons (retV 1) simSs_nil))) (len1 fun _ => by kernel_rfl)
noncomputable def f_staying (K : W.Frag) : AEnv → Res Fl := (sSeq (sAssign 2 (eLst eNil)) (sSeq (sFor (eItems (eVar 1)) (bName 3) (sSeq (sExpr (eVal (eAppend 2 (eVar 3)))) (sSeq (sExpr (eVal (eAppend 2 (eOp2 addS (eOp 3) (eVal (eConst (.int 1))))))) sNil))) (sSeq (sRet (eCompI [none, none, some 2] (eItems (eOpN rangeI (eConsB (eOp 0) eNilB))) (bName 1) (eTest2 notInI (eOp 1) (eOp 2)) (eVar 1))) sNil)))
noncomputable def F_staying (K : W.Frag) : List D → FOut := runI 4 [0, 1] (f_staying K)
theorem ok_staying {p : Program} {w : World} {B : Heap} {mg mb : Str → Option Value} (g : Gr (gd p w B mg mb true)) : FnOK (gd p w B mg mb true) 1 (.ref 182) (F_staying (gd p w B mg mb true).K) :=
  fnI g 182 4 [0, 1] (f := f_staying (gd p w B mg mb true).K) (simSs_cons (asg 2 (sim_List simVs_nil)) (simSs_cons (forS (simI_of (nV 1)) (tgN 3) (simSs_cons (exM (appM 2 (SimM.of (nV 3)))) (simSs_cons (exM (appM 2 (SimM.of (sim_BinOp (nB 3) (SimB.of sim_int) op_addS)))) simSs_nil))) (simSs_cons (simS_Return (lc [none, none, some 2] (simI_of (cB g (.type "range") op_range (aC (nB 0) simBs_nil))) (tgN 1) (simTF_one (cmpT (nB 1) (nB 2) op_notIn)) (nV 1))) simSs_nil))) (len2 fun _ _ => by kernel_rfl)
noncomputable def f_change_text (K : W.Frag) : AEnv → Res Fl := (sSeq (sExpr (eVal (eCall (F_need_change K) (eConsB (eOp 0) (eConsB (eOp 1) eNilB))))) (sSeq (sAssign 2 (eCall (F_staying K) (eConsB (eOp 0) (eConsB (eOp 1) eNilB)))) (sSeq (sIf (eTest2 eqI (eVal (eOpN lenS (eConsB (eOp 2) eNilB))) (eVal (eConst (.int 0)))) (sSeq (sRet (eConst (.str "-"))) sNil) sNil) (sSeq (sRet (eCall (F_signs_of K) (eConsB (eOp 2) eNilB))) sNil))))
noncomputable def F_change_text (K : W.Frag) : List D → FOut := runI 3 [0, 1] (f_change_text K)
theorem ok_change_text {p : Program} {w : World} {B : Heap} {mg mb : Str → Option Value} (g : Gr (gd p w B mg mb true)) : FnOK (gd p w B mg mb true) 4 (.ref 189) (F_change_text (gd p w B mg mb true).K) :=
  fnI g 189 3 [0, 1] (f := f_change_text (gd p w B mg mb true).K) (simSs_cons (simS_Expr (SimB.of (cF g 151 (ok_need_change g) (aC (nB 0) (aC (nB 1) simBs_nil)))) (fun _ => rfl)) (simSs_cons (asg 2 (cF g 182 (ok_staying g) (aC (nB 0) (aC (nB 1) simBs_nil)))) (simSs_cons (simS_If (cmpT (SimB.of (cB g (.builtin "len") op_lenS (aC (nB 2) simBs_nil))) (SimB.of sim_int) op_eq) (simSs_cons (simS_Return sim_str) simSs_nil) simSs_nil) (simSs_cons (simS_Return (cF g 156 (ok_signs_of g) (aC (nB 2) simBs_nil))) simSs_nil)))) (len2 fun _ _ => by kernel_rfl)
noncomputable def f_pairs_beside (K : W.Frag) : AEnv → Res Fl := (sSeq (sAssign 2 (eLst eNil)) (sSeq (sAssign 3 (eConst (.int 0))) (sSeq (sWhile 1000 (eTest2 ltI (eOp 3) (eOp 0)) (sSeq (sIf (eTest2 inI (eOp 3) (eOp 1)) (sSeq (sAssign 3 (eOp2 addS (eOp 3) (eVal (eConst (.int 1))))) sNil) (sSeq (sIf (eAnd (eTest2 ltI (eVal (eOp2 addS (eOp 3) (eVal (eConst (.int 1))))) (eOp 0)) (eAnd (eTest2 notInI (eVal (eOp2 addS (eOp 3) (eVal (eConst (.int 1))))) (eOp 1)) eAndNil)) (sSeq (sExpr (eVal (eAppend 2 (eVar 3)))) (sSeq (sAssign 3 (eOp2 addS (eOp 3) (eVal (eConst (.int 2))))) sNil)) (sSeq (sRaise 109 (eCons (eConst (.str "a place that stays alone")) eNil)) sNil)) sNil)) sNil)) (sSeq (sIf (eTest2 eqI (eVal (eOpN lenS (eConsB (eOp 2) eNilB))) (eVal (eConst (.int 0)))) (sSeq (sRaise 109 (eCons (eConst (.str "nothing is exchanged")) eNil)) sNil) sNil) (sSeq (sRet (eOpN tupleI (eConsB (eOp 2) eNilB))) sNil)))))
noncomputable def F_pairs_beside (K : W.Frag) : List D → FOut := runI 4 [0, 1] (f_pairs_beside K)
theorem ok_pairs_beside {p : Program} {w : World} {B : Heap} {mg mb : Str → Option Value} (g : Gr (gd p w B mg mb true)) : FnOK (gd p w B mg mb true) 1 (.ref 196) (F_pairs_beside (gd p w B mg mb true).K) :=
  fnI g 196 4 [0, 1] (f := f_pairs_beside (gd p w B mg mb true).K) (simSs_cons (asg 2 (sim_List simVs_nil)) (simSs_cons (asg 3 sim_int) (simSs_cons (simS_While (cmpT (nB 3) (nB 0) op_lt) (simSs_cons (simS_If (cmpT (nB 3) (nB 1) op_in) (simSs_cons (asg 3 (sim_BinOp (nB 3) (SimB.of sim_int) op_addS)) simSs_nil) (simSs_cons (simS_If (simT_boolOp (simTs_and (cmpT (SimB.of (sim_BinOp (nB 3) (SimB.of sim_int) op_addS)) (nB 0) op_lt) (simTs_and (cmpT (SimB.of (sim_BinOp (nB 3) (SimB.of sim_int) op_addS)) (nB 1) op_notIn) simTs_and_nil))) (simSs_cons (exM (appM 2 (SimM.of (nV 3)))) (simSs_cons (asg 3 (sim_BinOp (nB 3) (SimB.of sim_int) op_addS)) simSs_nil)) (simSs_cons (rais g 109 F.excBase_ValueError (vC sim_str simVs_nil)) simSs_nil)) simSs_nil)) simSs_nil)) (simSs_cons (simS_If (cmpT (SimB.of (cB g (.builtin "len") op_lenS (aC (nB 2) simBs_nil))) (SimB.of sim_int) op_eq) (simSs_cons (rais g 109 F.excBase_ValueError (vC sim_str simVs_nil)) simSs_nil) simSs_nil) (simSs_cons (simS_Return (cB g (.type "tuple") (op_tuple rfl) (aC (nB 2) simBs_nil))) simSs_nil))))) (len2 fun _ _ => by kernel_rfl)
noncomputable def f_change_of (K : W.Frag) : AEnv → Res Fl := (sSeq (sExpr (eVal (eCall (F_need_bells K) (eConsB (eOp 0) eNilB)))) (sSeq (sIf (eTest2 eqI (eOp 1) (eVal (eConst (.str "-")))) (sSeq (sRet (eCall (F_pairs_beside K) (eConsB (eOp 0) (eConsB (eVal (eLst eNil)) eNilB)))) sNil) sNil) (sSeq (sAssign 2 (eCall (F_places_of K) (eConsB (eOp 1) eNilB))) (sSeq (sIf (eOr (eTest2 eqI (eVal (eOpN lenS (eConsB (eOp 2) eNilB))) (eVal (eConst (.int 0)))) (eOr (eTest2 geI (eVal (eOp2 idxI (eOp 2) (eVal (eOp1 negI (eVal (eConst (.int 1))))))) (eOp 0)) eOrNil)) (sSeq (sRaise 109 (eCons (eConst (.str "no places of a change")) eNil)) sNil) sNil) (sSeq (sFor (eItems (eOpN rangeI (eConsB (eVal (eConst (.int 1))) (eConsB (eVal (eOpN lenS (eConsB (eOp 2) eNilB))) eNilB)))) (bName 3) (sSeq (sIf (eTest2 geI (eVal (eOp2 idxI (eOp 2) (eVal (eOp2 subI (eOp 3) (eVal (eConst (.int 1))))))) (eVal (eOp2 idxI (eOp 2) (eOp 3)))) (sSeq (sRaise 109 (eCons (eConst (.str "places that don't rise")) eNil)) sNil) sNil) sNil)) (sSeq (sRet (eCall (F_pairs_beside K) (eConsB (eOp 0) (eConsB (eOp 2) eNilB)))) sNil))))))
noncomputable def F_change_of (K : W.Frag) : List D → FOut := runI 4 [0, 1] (f_change_of K)
theorem ok_change_of {p : Program} {w : World} {B : Heap} {mg mb : Str → Option Value} (g : Gr (gd p w B mg mb true)) : FnOK (gd p w B mg mb true) 3 (.ref 203) (F_change_of (gd p w B mg mb true).K) :=
  fnI g 203 4 [0, 1] (f := f_change_of (gd p w B mg mb true).K) (simSs_cons (simS_Expr (SimB.of (cF g 125 (ok_need_bells g) (aC (nB 0) simBs_nil))) (fun _ => rfl)) (simSs_cons (simS_If (cmpT (nB 1) (SimB.of sim_str) op_eq) (simSs_cons (simS_Return (cF g 196 (ok_pairs_beside g) (aC (nB 0) (aC (SimB.of (sim_List simVs_nil)) simBs_nil)))) simSs_nil) simSs_nil) (simSs_cons (asg 2 (cF g 163 (ok_places_of g) (aC (nB 1) simBs_nil))) (simSs_cons (simS_If (simT_boolOp (simTs_or (cmpT (SimB.of (cB g (.builtin "len") op_lenS (aC (nB 2) simBs_nil))) (SimB.of sim_int) op_eq) (simTs_or (cmpT (SimB.of (sub (nB 2) (SimB.of (sim_UnaryOp (SimB.of sim_int) op_neg)))) (nB 0) op_ge) simTs_or_nil))) (simSs_cons (rais g 109 F.excBase_ValueError (vC sim_str simVs_nil)) simSs_nil) simSs_nil) (simSs_cons (forS (simI_of (cB g (.type "range") op_range (aC (SimB.of sim_int) (aC (SimB.of (cB g (.builtin "len") op_lenS (aC (nB 2) simBs_nil))) simBs_nil)))) (tgN 3) (simSs_cons (simS_If (cmpT (SimB.of (sub (nB 2) (SimB.of (sim_BinOp (nB 3) (SimB.of sim_int) op_sub)))) (SimB.of (sub (nB 2) (nB 3))) op_ge) (simSs_cons (rais g 109 F.excBase_ValueError (vC sim_str simVs_nil)) simSs_nil) simSs_nil) simSs_nil)) (simSs_cons (simS_Return (cF g 196 (ok_pairs_beside g) (aC (nB 0) (aC (nB 2) simBs_nil)))) simSs_nil)))))) (len2 fun _ _ => by kernel_rfl)
noncomputable def f_law_cell (K : W.Frag) : AEnv → Res Fl := (sSeq (sIf (eTest2 ltI (eOp 1) (eVal (eOpN lenS (eConsB (eOp 0) eNilB)))) (sSeq (sRet (eOp2 idxI (eOp 0) (eOp 1))) sNil) sNil) (sSeq (sRet (eConst (.int 0))) sNil))
noncomputable def F_law_cell (K : W.Frag) : List D → FOut := runI 2 [0, 1] (f_law_cell K)
theorem ok_law_cell {p : Program} {w : World} {B : Heap} {mg mb : Str → Option Value} (g : Gr (gd p w B mg mb true)) : FnOK (gd p w B mg mb true) 1 (.ref 210) (F_law_cell (gd p w B mg mb true).K) :=
  fnI g 210 2 [0, 1] (f := f_law_cell (gd p w B mg mb true).K) (simSs_cons (simS_If (cmpT (nB 1) (SimB.of (cB g (.builtin "len") op_lenS (aC (nB 0) simBs_nil))) op_lt) (simSs_cons (simS_Return (sub (nB 0) (nB 1))) simSs_nil) simSs_nil) (simSs_cons (simS_Return sim_int) simSs_nil)) (len2 fun _ _ => by kernel_rfl)
noncomputable def f_law_mix (K : W.Frag) : AEnv → Res Fl := (sSeq (sRet (eOp2 modI (eVal (eOp2 addS (eVal (eOp2 addS (eVal (eOp2 addS (eVal (eOp2 mulD (eOp 0) (eVal (eConst (.int 48271))))) (eVal (eOp2 mulD (eVal (eOp2 mulD (eVal (eConst (.int 7919))) (eOp 1))) (eOp 1))))) (eVal (eOp2 mulD (eVal (eConst (.int 104729))) (eOp 1))))) (eVal (eConst (.int 12345))))) (eVal (eConst (.int 2147483647))))) sNil)
noncomputable def F_law_mix (K : W.Frag) : List D → FOut := runI 2 [0, 1] (f_law_mix K)
theorem ok_law_mix {p : Program} {w : World} {B : Heap} {mg mb : Str → Option Value} (g : Gr (gd p w B mg mb true)) : FnOK (gd p w B mg mb true) 1 (.ref 217) (F_law_mix (gd p w B mg mb true).K) :=
  fnI g 217 2 [0, 1] (f := f_law_mix (gd p w B mg mb true).K) (simSs_cons (simS_Return (sim_BinOp (SimB.of (sim_BinOp (SimB.of (sim_BinOp (SimB.of (sim_BinOp (SimB.of (sim_BinOp (nB 0) (SimB.of sim_int) op_mulD)) (SimB.of (sim_BinOp (SimB.of (sim_BinOp (SimB.of sim_int) (nB 1) op_mulD)) (nB 1) op_mulD)) op_addS)) (SimB.of (sim_BinOp (SimB.of sim_int) (nB 1) op_mulD)) op_addS)) (SimB.of sim_int) op_addS)) (SimB.of sim_int) op_mod)) simSs_nil) (len2 fun _ _ => by kernel_rfl)
noncomputable def f_law_row (K : W.Frag) : AEnv → Res Fl := (sSeq (sAssign 2 (eOpN listS (eConsB (eVal (eOpN rangeI (eConsB (eOp 1) eNilB))) eNilB))) (sSeq (sAssign 3 (eLst eNil)) (sSeq (sFor (eItems (eOpN rangeI (eConsB (eOp 1) eNilB))) (bName 4) (sSeq (sExpr (eVal (eAppend 3 (ePop 2 (eVal (eOp2 modI (eVal (eOp2 divI (eVal (eCall (F_law_mix K) (eConsB (eOp 0) (eConsB (eOp 4) eNilB)))) (eVal (eConst (.int 7))))) (eVal (eOpN lenS (eConsB (eOp 2) eNilB))))))))) sNil)) (sSeq (sRet (eOpN tupleI (eConsB (eOp 3) eNilB))) sNil))))
noncomputable def F_law_row (K : W.Frag) : List D → FOut := runI 5 [0, 1] (f_law_row K)
theorem ok_law_row {p : Program} {w : World} {B : Heap} {mg mb : Str → Option Value} (g : Gr (gd p w B mg mb true)) : FnOK (gd p w B mg mb true) 2 (.ref 224) (F_law_row (gd p w B mg mb true).K) :=
  fnI g 224 5 [0, 1] (f := f_law_row (gd p w B mg mb true).K) (simSs_cons (asg 2 (cB g (.type "list") (op_listS rfl) (aC (SimB.of (cB g (.type "range") op_range (aC (nB 1) simBs_nil))) simBs_nil))) (simSs_cons (asg 3 (sim_List simVs_nil)) (simSs_cons (forS (simI_of (cB g (.type "range") op_range (aC (nB 1) simBs_nil))) (tgN 4) (simSs_cons (exM (appM 3 (popM 2 (SimB.of (sim_BinOp (SimB.of (sim_BinOp (SimB.of (cF g 217 (ok_law_mix g) (aC (nB 0) (aC (nB 4) simBs_nil)))) (SimB.of sim_int) op_div)) (SimB.of (cB g (.builtin "len") op_lenS (aC (nB 2) simBs_nil))) op_mod))))) simSs_nil)) (simSs_cons (simS_Return (cB g (.type "tuple") (op_tuple rfl) (aC (nB 3) simBs_nil))) simSs_nil)))) (len2 fun _ _ => by kernel_rfl)
noncomputable def f_law_change (K : W.Frag) : AEnv → Res Fl := (sSeq (sAssign 2 (eLst eNil)) (sSeq (sAssign 3 (eConst (.int 0))) (sSeq (sWhile 1000 (eTest2 ltI (eOp 3) (eVal (eOp2 subI (eOp 1) (eVal (eConst (.int 1)))))) (sSeq (sIf (eTest2 gtI (eVal (eOp2 modI (eVal (eOp2 divI (eVal (eCall (F_law_mix K) (eConsB (eOp 0) (eConsB (eOp 3) eNilB)))) (eVal (eConst (.int 5))))) (eVal (eConst (.int 3))))) (eVal (eConst (.int 0)))) (sSeq (sExpr (eVal (eAppend 2 (eVar 3)))) (sSeq (sAssign 3 (eOp2 addS (eOp 3) (eVal (eConst (.int 1))))) sNil)) sNil) (sSeq (sAssign 3 (eOp2 addS (eOp 3) (eVal (eConst (.int 1))))) sNil))) (sSeq (sIf (eTest2 eqI (eOp 2) (eVal (eLst eNil))) (sSeq (sAssign 2 (eLst (eCons (eOp2 modI (eVal (eCall (F_law_mix K) (eConsB (eOp 0) (eConsB (eVal (eConst (.int 20))) eNilB)))) (eVal (eOp2 subI (eOp 1) (eVal (eConst (.int 1)))))) eNil))) sNil) sNil) (sSeq (sRet (eOpN tupleI (eConsB (eOp 2) eNilB))) sNil)))))
noncomputable def F_law_change (K : W.Frag) : List D → FOut := runI 4 [0, 1] (f_law_change K)
theorem ok_law_change {p : Program} {w : World} {B : Heap} {mg mb : Str → Option Value} (g : Gr (gd p w B mg mb true)) : FnOK (gd p w B mg mb true) 2 (.ref 231) (F_law_change (gd p w B mg mb true).K) :=
  fnI g 231 4 [0, 1] (f := f_law_change (gd p w B mg mb true).K) (simSs_cons (asg 2 (sim_List simVs_nil)) (simSs_cons (asg 3 sim_int) (simSs_cons (simS_While (cmpT (nB 3) (SimB.of (sim_BinOp (nB 1) (SimB.of sim_int) op_sub)) op_lt) (simSs_cons (simS_If (cmpT (SimB.of (sim_BinOp (SimB.of (sim_BinOp (SimB.of (cF g 217 (ok_law_mix g) (aC (nB 0) (aC (nB 3) simBs_nil)))) (SimB.of sim_int) op_div)) (SimB.of sim_int) op_mod)) (SimB.of sim_int) op_gt) (simSs_cons (exM (appM 2 (SimM.of (nV 3)))) (simSs_cons (asg 3 (sim_BinOp (nB 3) (SimB.of sim_int) op_addS)) simSs_nil)) simSs_nil) (simSs_cons (asg 3 (sim_BinOp (nB 3) (SimB.of sim_int) op_addS)) simSs_nil))) (simSs_cons (simS_If (cmpT (nB 2) (SimB.of (sim_List simVs_nil)) op_eq) (simSs_cons (asg 2 (sim_List (vC (sim_BinOp (SimB.of (cF g 217 (ok_law_mix g) (aC (nB 0) (aC (SimB.of sim_int) simBs_nil)))) (SimB.of (sim_BinOp (nB 1) (SimB.of sim_int) op_sub)) op_mod) simVs_nil))) simSs_nil) simSs_nil) (simSs_cons (simS_Return (cB g (.type "tuple") (op_tuple rfl) (aC (nB 2) simBs_nil))) simSs_nil))))) (len2 fun _ _ => by kernel_rfl)
noncomputable def f_law_word (K : W.Frag) : AEnv → Res Fl := (sSeq (sAssign 1 (eLst (eCons (eTup (eCons (eConst (.str "bells")) (eCons (eOpN (isInstI K) (eConsB (eOp 0) (eConsB (eVal (eConst (.glob (.ref 37)))) eNilB))) eNil))) (eCons (eTup (eCons (eConst (.str "row")) (eCons (eOpN (isInstI K) (eConsB (eOp 0) (eConsB (eVal (eConst (.glob (.ref 49)))) eNilB))) eNil))) (eCons (eTup (eCons (eConst (.str "change")) (eCons (eOpN (isInstI K) (eConsB (eOp 0) (eConsB (eVal (eConst (.glob (.ref 61)))) eNilB))) eNil))) eNil))))) (sSeq (sAssign 1 (eOp2 addS (eOp 1) (eVal (eLst (eCons (eTup (eCons (eConst (.str "method")) (eCons (eOpN (isInstI K) (eConsB (eOp 0) (eConsB (eVal (eConst (.glob (.ref 73)))) eNilB))) eNil))) (eCons (eTup (eCons (eConst (.str "call")) (eCons (eOpN (isInstI K) (eConsB (eOp 0) (eConsB (eVal (eConst (.glob (.ref 85)))) eNilB))) eNil))) eNil)))))) (sSeq (sAssign 1 (eOp2 addS (eOp 1) (eVal (eLst (eCons (eTup (eCons (eConst (.str "count")) (eCons (eOpN (isInstI K) (eConsB (eOp 0) (eConsB (eVal (eConst (.glob (.ref 97)))) eNilB))) eNil))) (eCons (eTup (eCons (eConst (.str "text")) (eCons (eOpN (isInstI K) (eConsB (eOp 0) (eConsB (eVal (eConst (.glob (.ref 109)))) eNilB))) eNil))) eNil)))))) (sSeq (sAssign 2 (eCompI [none, none, none, some 0] (eItems (eVar 1)) (bTuple [1, 2]) (eAnd (eTruth (eOp 2)) (eAnd (eTruth (eVal (eOpN (isInstI K) (eConsB (eOp 3) (eConsB (eVal (eConst (.glob (.type "ValueError")))) eNilB))))) eAndNil)) (eVar 1))) (sSeq (sIf (eTest2 eqI (eVal (eOpN lenS (eConsB (eOp 2) eNilB))) (eVal (eConst (.int 1)))) (sSeq (sRet (eLst (eCons (eConst (.str "refused")) (eCons (eOp2 idxI (eOp 2) (eVal (eConst (.int 0)))) eNil)))) sNil) sNil) (sSeq (sRet (eLst (eCons (eConst (.str "refused")) (eCons (eConst (.str "otherwise")) eNil)))) sNil))))))
noncomputable def F_law_word (K : W.Frag) : List D → FOut := runI 3 [0] (f_law_word K)
theorem ok_law_word {p : Program} {w : World} {B : Heap} {mg mb : Str → Option Value} (g : Gr (gd p w B mg mb false)) : FnOK (gd p w B mg mb false) 1 (.ref 236) (F_law_word (gd p w B mg mb false).K) :=
  fnI g 236 3 [0] (f := f_law_word (gd p w B mg mb false).K) (simSs_cons (asg 1 (sim_List (vC (sim_Tuple (vC sim_str (vC (cB g (.builtin "isinstance") (op_isinstance g.ok) (aC (nB 0) (aC (SimB.of (gF g 37)) simBs_nil))) simVs_nil))) (vC (sim_Tuple (vC sim_str (vC (cB g (.builtin "isinstance") (op_isinstance g.ok) (aC (nB 0) (aC (SimB.of (gF g 49)) simBs_nil))) simVs_nil))) (vC (sim_Tuple (vC sim_str (vC (cB g (.builtin "isinstance") (op_isinstance g.ok) (aC (nB 0) (aC (SimB.of (gF g 61)) simBs_nil))) simVs_nil))) simVs_nil))))) (simSs_cons (asg 1 (sim_BinOp (nB 1) (SimB.of (sim_List (vC (sim_Tuple (vC sim_str (vC (cB g (.builtin "isinstance") (op_isinstance g.ok) (aC (nB 0) (aC (SimB.of (gF g 73)) simBs_nil))) simVs_nil))) (vC (sim_Tuple (vC sim_str (vC (cB g (.builtin "isinstance") (op_isinstance g.ok) (aC (nB 0) (aC (SimB.of (gF g 85)) simBs_nil))) simVs_nil))) simVs_nil)))) op_addS)) (simSs_cons (asg 1 (sim_BinOp (nB 1) (SimB.of (sim_List (vC (sim_Tuple (vC sim_str (vC (cB g (.builtin "isinstance") (op_isinstance g.ok) (aC (nB 0) (aC (SimB.of (gF g 97)) simBs_nil))) simVs_nil))) (vC (sim_Tuple (vC sim_str (vC (cB g (.builtin "isinstance") (op_isinstance g.ok) (aC (nB 0) (aC (SimB.of (gF g 109)) simBs_nil))) simVs_nil))) simVs_nil)))) op_addS)) (simSs_cons (asgC 2 [none, none, none, some 0] (simI_of (nV 1)) (tgT2 1 2) (simTF_one (simT_boolOp (simTs_and (nameT (nB 2)) (simTs_and (callT (SimB.of (cB g (.builtin "isinstance") (op_isinstance g.ok) (aC (nB 3) (aC (SimB.of (gB g (.type "ValueError"))) simBs_nil))))) simTs_and_nil)))) (nV 1)) (simSs_cons (simS_If (cmpT (SimB.of (cB g (.builtin "len") op_lenS (aC (nB 2) simBs_nil))) (SimB.of sim_int) op_eq) (simSs_cons (simS_Return (sim_List (vC sim_str (vC (sub (nB 2) (SimB.of sim_int)) simVs_nil)))) simSs_nil) simSs_nil) (simSs_cons (simS_Return (sim_List (vC sim_str (vC sim_str simVs_nil)))) simSs_nil)))))) (len1 fun _ => by kernel_rfl)
noncomputable def f_law_sign (K : W.Frag) : AEnv → Res Fl := (sSeq (sAssign 1 (eConst (.str " !\"#$&'()*+,-./0123456789:;<=>?@ABCDEFGHIJKLMNOPQRSTUVWXYZ[\\]^_`abcdefghijklmnopqrstuvwxyz{|}~\n\t"))) (sSeq (sIf (eTest2 gtI (eVal (eOp2 modI (eOp 0) (eVal (eConst (.int 4))))) (eVal (eConst (.int 0)))) (sSeq (sRet (eOp2 strIdx (eVal (eConst (.str "1234567890et-"))) (eVal (eOp2 modI (eVal (eOp2 divI (eOp 0) (eVal (eConst (.int 4))))) (eVal (eConst (.int 13))))))) sNil) sNil) (sSeq (sRet (eOp2 strIdx (eOp 1) (eVal (eOp2 modI (eVal (eOp2 divI (eOp 0) (eVal (eConst (.int 4))))) (eVal (eConst (.int 96))))))) sNil)))
noncomputable def F_law_sign (K : W.Frag) : List D → FOut := runI 2 [0] (f_law_sign K)
theorem ok_law_sign {p : Program} {w : World} {B : Heap} {mg mb : Str → Option Value} (g : Gr (gd p w B mg mb true)) : FnOK (gd p w B mg mb true) 1 (.ref 243) (F_law_sign (gd p w B mg mb true).K) :=
  fnI g 243 2 [0] (f := f_law_sign (gd p w B mg mb true).K) (simSs_cons (asg 1 sim_str) (simSs_cons (simS_If (cmpT (SimB.of (sim_BinOp (nB 0) (SimB.of sim_int) op_mod)) (SimB.of sim_int) op_gt) (simSs_cons (simS_Return (sim_SubStr (SimB.of sim_str) (SimB.of (sim_BinOp (SimB.of (sim_BinOp (nB 0) (SimB.of sim_int) op_div)) (SimB.of sim_int) op_mod)))) simSs_nil) simSs_nil) (simSs_cons (simS_Return (sim_SubStr (nB 1) (SimB.of (sim_BinOp (SimB.of (sim_BinOp (nB 0) (SimB.of sim_int) op_div)) (SimB.of sim_int) op_mod)))) simSs_nil))) (len1 fun _ => by kernel_rfl)
noncomputable def f_law_bent (K : W.Frag) : AEnv → Res Fl := (sSeq (sAssign 2 (eOp2 modI (eVal (eOp2 divI (eOp 1) (eVal (eConst (.int 3))))) (eVal (eOp2 addS (eVal (eOpN lenS (eConsB (eOp 0) eNilB))) (eVal (eConst (.int 1))))))) (sSeq (sAssign 3 (eCall (F_law_sign K) (eConsB (eVal (eOp2 divI (eOp 1) (eVal (eConst (.int 60))))) eNilB))) (sSeq (sIf (eTest2 eqI (eVal (eOp2 modI (eOp 1) (eVal (eConst (.int 3))))) (eVal (eConst (.int 0)))) (sSeq (sRet (eOp2 addS (eVal (eOp2 addS (eVal (eSliceS (eOp 0) eNoPart (ePart (eOp 2)))) (eOp 3))) (eVal (eSliceS (eOp 0) (ePart (eOp 2)) eNoPart)))) sNil) sNil) (sSeq (sIf (eTest2 eqI (eVal (eOp2 modI (eOp 1) (eVal (eConst (.int 3))))) (eVal (eConst (.int 1)))) (sSeq (sRet (eOp2 addS (eVal (eOp2 addS (eVal (eSliceS (eOp 0) eNoPart (ePart (eOp 2)))) (eOp 3))) (eVal (eSliceS (eOp 0) (ePart (eVal (eOp2 addS (eOp 2) (eVal (eConst (.int 1)))))) eNoPart)))) sNil) sNil) (sSeq (sRet (eOp2 addS (eVal (eSliceS (eOp 0) eNoPart (ePart (eOp 2)))) (eVal (eSliceS (eOp 0) (ePart (eVal (eOp2 addS (eOp 2) (eVal (eConst (.int 1)))))) eNoPart)))) sNil)))))
noncomputable def F_law_bent (K : W.Frag) : List D → FOut := runI 4 [0, 1] (f_law_bent K)
theorem ok_law_bent {p : Program} {w : World} {B : Heap} {mg mb : Str → Option Value} (g : Gr (gd p w B mg mb true)) : FnOK (gd p w B mg mb true) 2 (.ref 250) (F_law_bent (gd p w B mg mb true).K) :=
  fnI g 250 4 [0, 1] (f := f_law_bent (gd p w B mg mb true).K) (simSs_cons (asg 2 (sim_BinOp (SimB.of (sim_BinOp (nB 1) (SimB.of sim_int) op_div)) (SimB.of (sim_BinOp (SimB.of (cB g (.builtin "len") op_lenS (aC (nB 0) simBs_nil))) (SimB.of sim_int) op_addS)) op_mod)) (simSs_cons (asg 3 (cF g 243 (ok_law_sign g) (aC (SimB.of (sim_BinOp (nB 1) (SimB.of sim_int) op_div)) simBs_nil))) (simSs_cons (simS_If (cmpT (SimB.of (sim_BinOp (nB 1) (SimB.of sim_int) op_mod)) (SimB.of sim_int) op_eq) (simSs_cons (simS_Return (sim_BinOp (SimB.of (sim_BinOp (SimB.of (sim_SliceS (nB 0) simP_none (simP_some (nB 2)))) (nB 3) op_addS)) (SimB.of (sim_SliceS (nB 0) (simP_some (nB 2)) simP_none)) op_addS)) simSs_nil) simSs_nil) (simSs_cons (simS_If (cmpT (SimB.of (sim_BinOp (nB 1) (SimB.of sim_int) op_mod)) (SimB.of sim_int) op_eq) (simSs_cons (simS_Return (sim_BinOp (SimB.of (sim_BinOp (SimB.of (sim_SliceS (nB 0) simP_none (simP_some (nB 2)))) (nB 3) op_addS)) (SimB.of (sim_SliceS (nB 0) (simP_some (SimB.of (sim_BinOp (nB 2) (SimB.of sim_int) op_addS))) simP_none)) op_addS)) simSs_nil) simSs_nil) (simSs_cons (simS_Return (sim_BinOp (SimB.of (sim_SliceS (nB 0) simP_none (simP_some (nB 2)))) (SimB.of (sim_SliceS (nB 0) (simP_some (SimB.of (sim_BinOp (nB 2) (SimB.of sim_int) op_addS))) simP_none)) op_addS)) simSs_nil))))) (len2 fun _ _ => by kernel_rfl)
noncomputable def f_law_written (K : W.Frag) : AEnv → Res Fl := (sSeq (sRet (eMeth joinI (eVal (eConst (.str ""))) (eConsB (eVal (eCompI [none, none] (eItems (eVar 0)) (bName 1) eAll (eSliceS (eVal (eConst (.str "1234567890et"))) (ePart (eOp 1)) (ePart (eVal (eOp2 addS (eOp 1) (eVal (eConst (.int 1))))))))) eNilB))) sNil)
noncomputable def F_law_written (K : W.Frag) : List D → FOut := runI 1 [0] (f_law_written K)
theorem ok_law_written {p : Program} {w : World} {B : Heap} {mg mb : Str → Option Value} (g : Gr (gd p w B mg mb true)) : FnOK (gd p w B mg mb true) 1 (.ref 255) (F_law_written (gd p w B mg mb true).K) :=
  fnI g 255 1 [0] (f := f_law_written (gd p w B mg mb true).K) (simSs_cons (simS_Return (sim_meth F.slot_str_join F.type_str_join op_join (SimB.of sim_str) (aC (SimB.of (lc [none, none] (simI_of (nV 0)) (tgN 1) simTF_nil (sim_SliceS (SimB.of sim_str) (simP_some (nB 1)) (simP_some (SimB.of (sim_BinOp (nB 1) (SimB.of sim_int) op_addS)))))) simBs_nil))) simSs_nil) (len1 fun _ => by kernel_rfl)
noncomputable def f_law_stays (K : W.Frag) : AEnv → Res Fl := (sSeq (sAssign 2 (eConst (.str ""))) (sSeq (sFor (eItems (eOpN rangeI (eConsB (eOp 0) eNilB))) (bName 3) (sSeq (sIf (eAnd (eTest2 notInI (eOp 3) (eOp 1)) (eAnd (eTest2 notInI (eVal (eOp2 subI (eOp 3) (eVal (eConst (.int 1))))) (eOp 1)) eAndNil)) (sSeq (sAssign 2 (eOp2 addS (eOp 2) (eVal (eOp2 strIdx (eVal (eConst (.str "1234567890et"))) (eOp 3))))) sNil) sNil) sNil)) (sSeq (sIf (eTest2 eqI (eOp 2) (eVal (eConst (.str "")))) (sSeq (sRet (eConst (.str "-"))) sNil) sNil) (sSeq (sRetVar 2) sNil))))
noncomputable def F_law_stays (K : W.Frag) : List D → FOut := runI 4 [0, 1] (f_law_stays K)
theorem ok_law_stays {p : Program} {w : World} {B : Heap} {mg mb : Str → Option Value} (g : Gr (gd p w B mg mb true)) : FnOK (gd p w B mg mb true) 1 (.ref 262) (F_law_stays (gd p w B mg mb true).K) :=
  fnI g 262 4 [0, 1] (f := f_law_stays (gd p w B mg mb true).K) (simSs_cons (asg 2 sim_str) (simSs_cons (forS (simI_of (cB g (.type "range") op_range (aC (nB 0) simBs_nil))) (tgN 3) (simSs_cons (simS_If (simT_boolOp (simTs_and (cmpT (nB 3) (nB 1) op_notIn) (simTs_and (cmpT (SimB.of (sim_BinOp (nB 3) (SimB.of sim_int) op_sub)) (nB 1) op_notIn) simTs_and_nil))) (simSs_cons (asg 2 (sim_BinOp (nB 2) (SimB.of (sim_SubStr (SimB.of sim_str) (nB 3))) op_addS)) simSs_nil) simSs_nil) simSs_nil)) (simSs_cons (simS_If (cmpT (nB 2) (SimB.of sim_str) op_eq) (simSs_cons (simS_Return sim_str) simSs_nil) simSs_nil) (simSs_cons (retV 2) simSs_nil)))) (len2 fun _ _ => by kernel_rfl)
noncomputable def f_law_row_due (K : W.Frag) : AEnv → Res Fl := (sSeq (sIf (eOr (eNot (eTruth (eVal (eOpN (isInstI K) (eConsB (eOp 0) (eConsB (eVal (eConst (.glob (.type "str")))) eNilB)))))) (eOr (eNot (eChain leI leI (eVal (eConst (.int 3))) (eVal (eOpN lenS (eConsB (eOp 0) eNilB))) (eVal (eConst (.int 12))))) eOrNil)) (sSeq (sRet (eConst .none)) sNil) sNil) (sSeq (sAssign 1 (eSliceS (eVal (eConst (.str "1234567890et"))) eNoPart (ePart (eVal (eOpN lenS (eConsB (eOp 0) eNilB)))))) (sSeq (sIf (eTest2 neI (eVal (eOpN sortedX (eConsB (eOp 0) eNilB))) (eVal (eOpN sortedX (eConsB (eOp 1) eNilB)))) (sSeq (sRet (eConst .none)) sNil) sNil) (sSeq (sRet (eOpN tupleI (eConsB (eVal (eCompI [none, none, some 1] (eSigns (eVar 0)) (bName 1) eAll (eMeth sidxI (eOp 2) (eConsB (eOp 1) eNilB)))) eNilB))) sNil))))
noncomputable def F_law_row_due (K : W.Frag) : List D → FOut := runI 2 [0] (f_law_row_due K)
theorem ok_law_row_due {p : Program} {w : World} {B : Heap} {mg mb : Str → Option Value} (g : Gr (gd p w B mg mb true)) : FnOK (gd p w B mg mb true) 1 (.ref 267) (F_law_row_due (gd p w B mg mb true).K) :=
  fnI g 267 2 [0] (f := f_law_row_due (gd p w B mg mb true).K) (simSs_cons (simS_If (simT_boolOp (simTs_or (simT_not (callT (SimB.of (cB g (.builtin "isinstance") (op_isinstance g.ok) (aC (nB 0) (aC (SimB.of (gB g (.type "str"))) simBs_nil)))))) (simTs_or (simT_not (chT (SimB.of sim_int) (SimB.of (cB g (.builtin "len") op_lenS (aC (nB 0) simBs_nil))) (SimB.of sim_int) op_le op_le)) simTs_or_nil))) (simSs_cons (simS_Return sim_none) simSs_nil) simSs_nil) (simSs_cons (asg 1 (sim_SliceS (SimB.of sim_str) simP_none (simP_some (SimB.of (cB g (.builtin "len") op_lenS (aC (nB 0) simBs_nil)))))) (simSs_cons (simS_If (cmpT (SimB.of (cB g (.builtin "sorted") (op_sortedX rfl) (aC (nB 0) simBs_nil))) (SimB.of (cB g (.builtin "sorted") (op_sortedX rfl) (aC (nB 1) simBs_nil))) op_ne) (simSs_cons (simS_Return sim_none) simSs_nil) simSs_nil) (simSs_cons (simS_Return (cB g (.type "tuple") (op_tuple rfl) (aC (SimB.of (lc [none, none, some 1] (simI_str (nV 0)) (tgN 1) simTF_nil (sim_meth F.slot_str_index F.type_str_index op_sidx (nB 2) (aC (nB 1) simBs_nil)))) simBs_nil))) simSs_nil)))) (len1 fun _ => by kernel_rfl)
noncomputable def f_law_change_due (K : W.Frag) : AEnv → Res Fl := (sSeq (sIf (eNot (eTruth (eVal (eOpN (isInstI K) (eConsB (eOp 1) (eConsB (eVal (eConst (.glob (.type "str")))) eNilB)))))) (sSeq (sRet (eConst .none)) sNil) sNil) (sSeq (sAssign 2 (eLst eNil)) (sSeq (sAssign 3 (eConst (.int 0))) (sSeq (sWhile 1000 (eTest2 ltI (eOp 3) (eOp 0)) (sSeq (sIf (eTest2 inI (eVal (eOp2 strIdx (eVal (eConst (.str "1234567890et"))) (eOp 3))) (eOp 1)) (sSeq (sAssign 3 (eOp2 addS (eOp 3) (eVal (eConst (.int 1))))) sNil) (sSeq (sExpr (eVal (eAppend 2 (eVar 3)))) (sSeq (sAssign 3 (eOp2 addS (eOp 3) (eVal (eConst (.int 2))))) sNil))) sNil)) (sSeq (sIf (eOr (eTest2 eqI (eOp 2) (eVal (eLst eNil))) (eOr (eTest2 gtI (eVal (eOp2 idxI (eOp 2) (eVal (eOp1 negI (eVal (eConst (.int 1))))))) (eVal (eOp2 subI (eOp 0) (eVal (eConst (.int 2)))))) (eOr (eTest2 neI (eVal (eCall (F_law_stays K) (eConsB (eOp 0) (eConsB (eOp 2) eNilB)))) (eOp 1)) eOrNil))) (sSeq (sRet (eConst .none)) sNil) sNil) (sSeq (sRet (eOpN tupleI (eConsB (eOp 2) eNilB))) sNil))))))
noncomputable def F_law_change_due (K : W.Frag) : List D → FOut := runI 4 [0, 1] (f_law_change_due K)
theorem ok_law_change_due {p : Program} {w : World} {B : Heap} {mg mb : Str → Option Value} (g : Gr (gd p w B mg mb true)) : FnOK (gd p w B mg mb true) 2 (.ref 274) (F_law_change_due (gd p w B mg mb true).K) :=
  fnI g 274 4 [0, 1] (f := f_law_change_due (gd p w B mg mb true).K) (simSs_cons (simS_If (simT_not (callT (SimB.of (cB g (.builtin "isinstance") (op_isinstance g.ok) (aC (nB 1) (aC (SimB.of (gB g (.type "str"))) simBs_nil)))))) (simSs_cons (simS_Return sim_none) simSs_nil) simSs_nil) (simSs_cons (asg 2 (sim_List simVs_nil)) (simSs_cons (asg 3 sim_int) (simSs_cons (simS_While (cmpT (nB 3) (nB 0) op_lt) (simSs_cons (simS_If (cmpT (SimB.of (sim_SubStr (SimB.of sim_str) (nB 3))) (nB 1) op_in) (simSs_cons (asg 3 (sim_BinOp (nB 3) (SimB.of sim_int) op_addS)) simSs_nil) (simSs_cons (exM (appM 2 (SimM.of (nV 3)))) (simSs_cons (asg 3 (sim_BinOp (nB 3) (SimB.of sim_int) op_addS)) simSs_nil))) simSs_nil)) (simSs_cons (simS_If (simT_boolOp (simTs_or (cmpT (nB 2) (SimB.of (sim_List simVs_nil)) op_eq) (simTs_or (cmpT (SimB.of (sub (nB 2) (SimB.of (sim_UnaryOp (SimB.of sim_int) op_neg)))) (SimB.of (sim_BinOp (nB 0) (SimB.of sim_int) op_sub)) op_gt) (simTs_or (cmpT (SimB.of (cF g 262 (ok_law_stays g) (aC (nB 0) (aC (nB 2) simBs_nil)))) (nB 1) op_ne) simTs_or_nil)))) (simSs_cons (simS_Return sim_none) simSs_nil) simSs_nil) (simSs_cons (simS_Return (cB g (.type "tuple") (op_tuple rfl) (aC (nB 2) simBs_nil))) simSs_nil)))))) (len2 fun _ _ => by kernel_rfl)
noncomputable def f_law_told (K : W.Frag) : AEnv → Res Fl := (sSeq (sTry K 24 3 (sSeq (sIf (eTest2 eqI (eOp 0) (eVal (eConst (.int 0)))) (sSeq (sRet (eCall (F_row_text K) (eConsB (eOp 1) eNilB))) sNil) sNil) (sSeq (sIf (eTest2 eqI (eOp 0) (eVal (eConst (.int 1)))) (sSeq (sRet (eCall (F_row_of K) (eConsB (eOp 1) eNilB))) sNil) sNil) (sSeq (sIf (eTest2 eqI (eOp 0) (eVal (eConst (.int 2)))) (sSeq (sRet (eCall (F_change_text K) (eConsB (eOp 1) (eConsB (eOp 2) eNilB)))) sNil) sNil) (sSeq (sRet (eCall (F_change_of K) (eConsB (eOp 1) (eConsB (eOp 2) eNilB)))) sNil)))) (sSeq (sRet (eCall (F_law_word K) (eConsB (eOp 3) eNilB))) sNil)) sNil)
noncomputable def F_law_told (K : W.Frag) : List D → FOut := runI 4 [0, 1, 2] (f_law_told K)
theorem ok_law_told {p : Program} {w : World} {B : Heap} {mg mb : Str → Option Value} (g : Gr (gd p w B mg mb true)) : FnOK (gd p w B mg mb true) 5 (.ref 281) (F_law_told (gd p w B mg mb true).K) :=
  fnI g 281 4 [0, 1, 2] (f := f_law_told (gd p w B mg mb true).K) (simSs_cons (tryS g 24 3 (simSs_cons (simS_If (cmpT (nB 0) (SimB.of sim_int) op_eq) (simSs_cons (simS_Return (cF g 170 (ok_row_text g) (aC (nB 1) simBs_nil))) simSs_nil) simSs_nil) (simSs_cons (simS_If (cmpT (nB 0) (SimB.of sim_int) op_eq) (simSs_cons (simS_Return (cF g 177 (ok_row_of g) (aC (nB 1) simBs_nil))) simSs_nil) simSs_nil) (simSs_cons (simS_If (cmpT (nB 0) (SimB.of sim_int) op_eq) (simSs_cons (simS_Return (cF g 189 (ok_change_text g) (aC (nB 1) (aC (nB 2) simBs_nil)))) simSs_nil) simSs_nil) (simSs_cons (simS_Return (cF g 203 (ok_change_of g) (aC (nB 1) (aC (nB 2) simBs_nil)))) simSs_nil)))) (simSs_cons (simS_Return (cF g.loud 236 (ok_law_word g.loud) (aC (nB 3) simBs_nil))) simSs_nil)) simSs_nil) (len3 fun _ _ _ => by kernel_rfl)
noncomputable def f_law_right (K : W.Frag) : AEnv → Res Fl := (sSeq (sIf (eTest2 isI (eOp 1) (eVal (eConst .none))) (sSeq (sRet (eOp2 eqI (eOp 0) (eVal (eLst (eCons (eConst (.str "refused")) (eCons (eConst (.str "text")) eNil)))))) sNil) sNil) (sSeq (sIf (eOr (eNot (eTruth (eVal (eOpN (isInstI K) (eConsB (eOp 0) (eConsB (eVal (eConst (.glob (.type "tuple")))) eNilB)))))) (eOr (eTest2 neI (eOp 0) (eOp 1)) eOrNil)) (sSeq (sRet (eConst (.bool false))) sNil) sNil) (sSeq (sRet (eOpN allI (eConsB (eVal (eCompI [none, none] (eItems (eVar 0)) (bName 1) eAll (eBo .And (eVal (eOpN (isInstI K) (eConsB (eOp 1) (eConsB (eVal (eConst (.glob (.type "int")))) eNilB)))) (eOp1 notI (eVal (eOpN (isInstI K) (eConsB (eOp 1) (eConsB (eVal (eConst (.glob (.type "bool")))) eNilB)))))))) eNilB))) sNil)))
noncomputable def F_law_right (K : W.Frag) : List D → FOut := runI 2 [0, 1] (f_law_right K)
theorem ok_law_right {p : Program} {w : World} {B : Heap} {mg mb : Str → Option Value} (g : Gr (gd p w B mg mb true)) : FnOK (gd p w B mg mb true) 1 (.ref 286) (F_law_right (gd p w B mg mb true).K) :=
  fnI g 286 2 [0, 1] (f := f_law_right (gd p w B mg mb true).K) (simSs_cons (simS_If (cmpT (nB 1) (SimB.of sim_none) op_is) (simSs_cons (simS_Return (cmpV (nB 0) (SimB.of (sim_List (vC sim_str (vC sim_str simVs_nil)))) op_eq)) simSs_nil) simSs_nil) (simSs_cons (simS_If (simT_boolOp (simTs_or (simT_not (callT (SimB.of (cB g (.builtin "isinstance") (op_isinstance g.ok) (aC (nB 0) (aC (SimB.of (gB g (.type "tuple"))) simBs_nil)))))) (simTs_or (cmpT (nB 0) (nB 1) op_ne) simTs_or_nil))) (simSs_cons (simS_Return sim_bool) simSs_nil) simSs_nil) (simSs_cons (simS_Return (cB g (.builtin "all") (op_all rfl) (aC (SimB.of (lc [none, none] (simI_of (nV 0)) (tgN 1) simTF_nil (sim_BoolOp (simBo_cons (SimB.of (cB g (.builtin "isinstance") (op_isinstance g.ok) (aC (nB 1) (aC (SimB.of (gB g (.type "int"))) simBs_nil)))) (simBo_one (sim_UnaryOp (SimB.of (cB g (.builtin "isinstance") (op_isinstance g.ok) (aC (nB 1) (aC (SimB.of (gB g (.type "bool"))) simBs_nil)))) op_not)))))) simBs_nil))) simSs_nil))) (len2 fun _ _ => by kernel_rfl)
noncomputable def f_law (K : W.Frag) : AEnv → Res Fl := (sSeq (sAssign 1 (eOp2 addS (eVal (eConst (.int 3))) (eVal (eOp2 modI (eVal (eCall (F_law_cell K) (eConsB (eOp 0) (eConsB (eVal (eConst (.int 0))) eNilB)))) (eVal (eConst (.int 10))))))) (sSeq (sAssign 2 (eCall (F_law_row K) (eConsB (eVal (eCall (F_law_cell K) (eConsB (eOp 0) (eConsB (eVal (eConst (.int 1))) eNilB)))) (eConsB (eOp 1) eNilB)))) (sSeq (sAssign 3 (eCall (F_law_change K) (eConsB (eVal (eCall (F_law_cell K) (eConsB (eOp 0) (eConsB (eVal (eConst (.int 2))) eNilB)))) (eConsB (eOp 1) eNilB)))) (sSeq (sAssign 4 (eLst (eCons (eCall (F_law_written K) (eConsB (eOp 2) eNilB)) (eCons (eCall (F_law_stays K) (eConsB (eOp 1) (eConsB (eOp 3) eNilB))) eNil)))) (sSeq (sIf (eTest2 neI (eVal (eLst (eCons (eCall (F_row_text K) (eConsB (eOp 2) eNilB)) (eCons (eCall (F_change_text K) (eConsB (eOp 1) (eConsB (eOp 3) eNilB))) eNil)))) (eOp 4)) (sSeq (sRet (eConst (.bool false))) sNil) sNil) (sSeq (sIf (eOr (eNot (eTruth (eVal (eCall (F_law_right K) (eConsB (eVal (eCall (F_row_of K) (eConsB (eVal (eOp2 idxI (eOp 4) (eVal (eConst (.int 0))))) eNilB))) (eConsB (eOp 2) eNilB)))))) (eOr (eNot (eTruth (eVal (eCall (F_law_right K) (eConsB (eVal (eCall (F_change_of K) (eConsB (eOp 1) (eConsB (eVal (eOp2 idxI (eOp 4) (eVal (eConst (.int 1))))) eNilB)))) (eConsB (eOp 3) eNilB)))))) eOrNil)) (sSeq (sRet (eConst (.bool false))) sNil) sNil) (sSeq (sFor (eItems (eOpN rangeI (eConsB (eVal (eConst (.int 3))) eNilB))) (bName 5) (sSeq (sAssign 6 (eCall (F_law_mix K) (eConsB (eVal (eCall (F_law_cell K) (eConsB (eOp 0) (eConsB (eVal (eOp2 addS (eVal (eConst (.int 3))) (eOp 5))) eNilB)))) (eConsB (eVal (eConst (.int 5))) eNilB)))) (sSeq (sAssign 7 (eCall (F_law_bent K) (eConsB (eVal (eOp2 idxI (eOp 4) (eVal (eConst (.int 0))))) (eConsB (eOp 6) eNilB)))) (sSeq (sAssign 8 (eCall (F_law_bent K) (eConsB (eVal (eOp2 idxI (eOp 4) (eVal (eConst (.int 1))))) (eConsB (eVal (eOp2 divI (eOp 6) (eVal (eConst (.int 7))))) eNilB)))) (sSeq (sIf (eTest2 eqI (eVal (eOp2 modI (eVal (eOp2 divI (eOp 6) (eVal (eConst (.int 11))))) (eVal (eConst (.int 8))))) (eVal (eConst (.int 1)))) (sSeq (sAssign 7 (eOp2 idxI (eVal (eLst (eCons (eConst .none) (eCons (eConst (.int 5)) (eCons (eOpN listS (eConsB (eVal (eOp2 idxI (eOp 4) (eVal (eConst (.int 0))))) eNilB)) (eCons (eConst (.bool true)) eNil)))))) (eVal (eOp2 modI (eVal (eOp2 divI (eOp 6) (eVal (eConst (.int 88))))) (eVal (eConst (.int 4))))))) (sSeq (sAssign 8 (eVar 7)) sNil)) sNil) (sSeq (sIf (eNot (eTruth (eVal (eCall (F_law_right K) (eConsB (eVal (eCall (F_law_told K) (eConsB (eVal (eConst (.int 1))) (eConsB (eOp 7) (eConsB (eVal (eConst .none)) eNilB))))) (eConsB (eVal (eCall (F_law_row_due K) (eConsB (eOp 7) eNilB))) eNilB)))))) (sSeq (sRet (eConst (.bool false))) sNil) sNil) (sSeq (sIf (eNot (eTruth (eVal (eCall (F_law_right K) (eConsB (eVal (eCall (F_law_told K) (eConsB (eVal (eConst (.int 3))) (eConsB (eOp 1) (eConsB (eOp 8) eNilB))))) (eConsB (eVal (eCall (F_law_change_due K) (eConsB (eOp 1) (eConsB (eOp 8) eNilB)))) eNilB)))))) (sSeq (sRet (eConst (.bool false))) sNil) sNil) sNil))))))) (sSeq (sAssign 6 (eCall (F_law_mix K) (eConsB (eVal (eCall (F_law_cell K) (eConsB (eOp 0) (eConsB (eVal (eConst (.int 6))) eNilB)))) (eConsB (eVal (eConst (.int 6))) eNilB)))) (sSeq (sAssign 9 (eOp2 idxI (eVal (eLst (eCons (eConst (.int 2)) (eCons (eConst (.int 13)) (eCons (eConst (.bool true)) (eCons (eConst .none) (eCons (eConst (.str "6")) eNil))))))) (eVal (eOp2 modI (eOp 6) (eVal (eConst (.int 5))))))) (sSeq (sAssign 10 (eOp2 idxI (eVal (eLst (eCons (eTup (eCons (eOp2 subI (eOp 1) (eVal (eConst (.int 1)))) eNil)) (eCons (eConst .none) (eCons (eTup eNil) (eCons (eTup (eCons (eConst (.int 0)) (eCons (eConst (.int 1)) eNil))) (eCons (eTup (eCons (eOp1 negI (eVal (eConst (.int 1)))) eNil)) (eCons (eLst (eCons (eConst (.str "0")) eNil)) eNil)))))))) (eVal (eOp2 modI (eVal (eOp2 divI (eOp 6) (eVal (eConst (.int 5))))) (eVal (eConst (.int 6))))))) (sSeq (sAssign 11 (eOp2 idxI (eVal (eLst (eCons (eOpN listS (eConsB (eOp 2) eNilB)) (eCons (eConst .none) (eCons (eOp2 addS (eVal (eSlice (eOp 2) (ePart (eVal (eConst (.int 1)))) eNoPart)) (eVal (eSlice (eOp 2) (ePart (eVal (eConst (.int 1)))) (ePart (eVal (eConst (.int 2))))))) (eCons (eOp2 addS (eVal (eSlice (eOp 2) eNoPart (ePart (eVal (eOp1 negI (eVal (eConst (.int 1)))))))) (eVal (eTup (eCons (eVar 1) eNil)))) (eCons (eOp2 addS (eVal (eTup (eCons (eConst (.str "1")) eNil))) (eVal (eSlice (eOp 2) (ePart (eVal (eConst (.int 1)))) eNoPart))) eNil))))))) (eVal (eOp2 modI (eVal (eOp2 divI (eOp 6) (eVal (eConst (.int 30))))) (eVal (eConst (.int 5))))))) (sSeq (sAssign 12 (eLst (eCons (eCall (F_law_told K) (eConsB (eVal (eConst (.int 0))) (eConsB (eOp 11) (eConsB (eVal (eConst .none)) eNilB)))) (eCons (eCall (F_law_told K) (eConsB (eVal (eConst (.int 2))) (eConsB (eOp 9) (eConsB (eOp 10) eNilB)))) (eCons (eCall (F_law_told K) (eConsB (eVal (eConst (.int 2))) (eConsB (eOp 1) (eConsB (eOp 10) eNilB)))) (eCons (eCall (F_law_told K) (eConsB (eVal (eConst (.int 3))) (eConsB (eOp 9) (eConsB (eVal (eConst (.str ""))) eNilB)))) eNil)))))) (sSeq (sIf (eTest2 neI (eOp 12) (eVal (eLst (eCons (eLst (eCons (eConst (.str "refused")) (eCons (eConst (.str "row")) eNil))) (eCons (eLst (eCons (eConst (.str "refused")) (eCons (eConst (.str "bells")) eNil))) (eCons (eLst (eCons (eConst (.str "refused")) (eCons (eConst (.str "change")) eNil))) (eCons (eLst (eCons (eConst (.str "refused")) (eCons (eConst (.str "bells")) eNil))) eNil))))))) (sSeq (sRet (eConst (.bool false))) sNil) sNil) (sSeq (sRet (eBo .And (eVal (eOp2 eqI (eVal (eCall (F_row_text K) (eConsB (eOp 2) eNilB))) (eVal (eOp2 idxI (eOp 4) (eVal (eConst (.int 0))))))) (eCall (F_law_right K) (eConsB (eVal (eCall (F_change_of K) (eConsB (eOp 1) (eConsB (eVal (eOp2 idxI (eOp 4) (eVal (eConst (.int 1))))) eNilB)))) (eConsB (eOp 3) eNilB))))) sNil))))))))))))))
noncomputable def F_law (K : W.Frag) : List D → FOut := runI 13 [0] (f_law K)
theorem ok_law {p : Program} {w : World} {B : Heap} {mg mb : Str → Option Value} (g : Gr (gd p w B mg mb true)) : FnOK (gd p w B mg mb true) 6 (.ref 293) (F_law (gd p w B mg mb true).K) :=
  fnI g 293 13 [0] (f := f_law (gd p w B mg mb true).K) (simSs_cons (asg 1 (sim_BinOp (SimB.of sim_int) (SimB.of (sim_BinOp (SimB.of (cF g 210 (ok_law_cell g) (aC (nB 0) (aC (SimB.of sim_int) simBs_nil)))) (SimB.of sim_int) op_mod)) op_addS)) (simSs_cons (asg 2 (cF g 224 (ok_law_row g) (aC (SimB.of (cF g 210 (ok_law_cell g) (aC (nB 0) (aC (SimB.of sim_int) simBs_nil)))) (aC (nB 1) simBs_nil)))) (simSs_cons (asg 3 (cF g 231 (ok_law_change g) (aC (SimB.of (cF g 210 (ok_law_cell g) (aC (nB 0) (aC (SimB.of sim_int) simBs_nil)))) (aC (nB 1) simBs_nil)))) (simSs_cons (asg 4 (sim_List (vC (cF g 255 (ok_law_written g) (aC (nB 2) simBs_nil)) (vC (cF g 262 (ok_law_stays g) (aC (nB 1) (aC (nB 3) simBs_nil))) simVs_nil)))) (simSs_cons (simS_If (cmpT (SimB.of (sim_List (vC (cF g 170 (ok_row_text g) (aC (nB 2) simBs_nil)) (vC (cF g 189 (ok_change_text g) (aC (nB 1) (aC (nB 3) simBs_nil))) simVs_nil)))) (nB 4) op_ne) (simSs_cons (simS_Return sim_bool) simSs_nil) simSs_nil) (simSs_cons (simS_If (simT_boolOp (simTs_or (simT_not (callT (SimB.of (cF g 286 (ok_law_right g) (aC (SimB.of (cF g 177 (ok_row_of g) (aC (SimB.of (sub (nB 4) (SimB.of sim_int))) simBs_nil))) (aC (nB 2) simBs_nil)))))) (simTs_or (simT_not (callT (SimB.of (cF g 286 (ok_law_right g) (aC (SimB.of (cF g 203 (ok_change_of g) (aC (nB 1) (aC (SimB.of (sub (nB 4) (SimB.of sim_int))) simBs_nil)))) (aC (nB 3) simBs_nil)))))) simTs_or_nil))) (simSs_cons (simS_Return sim_bool) simSs_nil) simSs_nil) (simSs_cons (forS (simI_of (cB g (.type "range") op_range (aC (SimB.of sim_int) simBs_nil))) (tgN 5) (simSs_cons (asg 6 (cF g 217 (ok_law_mix g) (aC (SimB.of (cF g 210 (ok_law_cell g) (aC (nB 0) (aC (SimB.of (sim_BinOp (SimB.of sim_int) (nB 5) op_addS)) simBs_nil)))) (aC (SimB.of sim_int) simBs_nil)))) (simSs_cons (asg 7 (cF g 250 (ok_law_bent g) (aC (SimB.of (sub (nB 4) (SimB.of sim_int))) (aC (nB 6) simBs_nil)))) (simSs_cons (asg 8 (cF g 250 (ok_law_bent g) (aC (SimB.of (sub (nB 4) (SimB.of sim_int))) (aC (SimB.of (sim_BinOp (nB 6) (SimB.of sim_int) op_div)) simBs_nil)))) (simSs_cons (simS_If (cmpT (SimB.of (sim_BinOp (SimB.of (sim_BinOp (nB 6) (SimB.of sim_int) op_div)) (SimB.of sim_int) op_mod)) (SimB.of sim_int) op_eq) (simSs_cons (asg 7 (sub (SimB.of (sim_List (vC sim_none (vC sim_int (vC (cB g (.type "list") (op_listS rfl) (aC (SimB.of (sub (nB 4) (SimB.of sim_int))) simBs_nil)) (vC sim_bool simVs_nil)))))) (SimB.of (sim_BinOp (SimB.of (sim_BinOp (nB 6) (SimB.of sim_int) op_div)) (SimB.of sim_int) op_mod)))) (simSs_cons (asg 8 (nV 7)) simSs_nil)) simSs_nil) (simSs_cons (simS_If (simT_not (callT (SimB.of (cF g 286 (ok_law_right g) (aC (SimB.of (cF g 281 (ok_law_told g) (aC (SimB.of sim_int) (aC (nB 7) (aC (SimB.of sim_none) simBs_nil))))) (aC (SimB.of (cF g 267 (ok_law_row_due g) (aC (nB 7) simBs_nil))) simBs_nil)))))) (simSs_cons (simS_Return sim_bool) simSs_nil) simSs_nil) (simSs_cons (simS_If (simT_not (callT (SimB.of (cF g 286 (ok_law_right g) (aC (SimB.of (cF g 281 (ok_law_told g) (aC (SimB.of sim_int) (aC (nB 1) (aC (nB 8) simBs_nil))))) (aC (SimB.of (cF g 274 (ok_law_change_due g) (aC (nB 1) (aC (nB 8) simBs_nil)))) simBs_nil)))))) (simSs_cons (simS_Return sim_bool) simSs_nil) simSs_nil) simSs_nil))))))) (simSs_cons (asg 6 (cF g 217 (ok_law_mix g) (aC (SimB.of (cF g 210 (ok_law_cell g) (aC (nB 0) (aC (SimB.of sim_int) simBs_nil)))) (aC (SimB.of sim_int) simBs_nil)))) (simSs_cons (asg 9 (sub (SimB.of (sim_List (vC sim_int (vC sim_int (vC sim_bool (vC sim_none (vC sim_str simVs_nil))))))) (SimB.of (sim_BinOp (nB 6) (SimB.of sim_int) op_mod)))) (simSs_cons (asg 10 (sub (SimB.of (sim_List (vC (sim_Tuple (vC (sim_BinOp (nB 1) (SimB.of sim_int) op_sub) simVs_nil)) (vC sim_none (vC (sim_Tuple simVs_nil) (vC (sim_Tuple (vC sim_int (vC sim_int simVs_nil))) (vC (sim_Tuple (vC (sim_UnaryOp (SimB.of sim_int) op_neg) simVs_nil)) (vC (sim_List (vC sim_str simVs_nil)) simVs_nil)))))))) (SimB.of (sim_BinOp (SimB.of (sim_BinOp (nB 6) (SimB.of sim_int) op_div)) (SimB.of sim_int) op_mod)))) (simSs_cons (asg 11 (sub (SimB.of (sim_List (vC (cB g (.type "list") (op_listS rfl) (aC (nB 2) simBs_nil)) (vC sim_none (vC (sim_BinOp (SimB.of (sim_Slice (nB 2) (simP_some (SimB.of sim_int)) simP_none)) (SimB.of (sim_Slice (nB 2) (simP_some (SimB.of sim_int)) (simP_some (SimB.of sim_int)))) op_addS) (vC (sim_BinOp (SimB.of (sim_Slice (nB 2) simP_none (simP_some (SimB.of (sim_UnaryOp (SimB.of sim_int) op_neg))))) (SimB.of (sim_Tuple (vC (nV 1) simVs_nil))) op_addS) (vC (sim_BinOp (SimB.of (sim_Tuple (vC sim_str simVs_nil))) (SimB.of (sim_Slice (nB 2) (simP_some (SimB.of sim_int)) simP_none)) op_addS) simVs_nil))))))) (SimB.of (sim_BinOp (SimB.of (sim_BinOp (nB 6) (SimB.of sim_int) op_div)) (SimB.of sim_int) op_mod)))) (simSs_cons (asg 12 (sim_List (vC (cF g 281 (ok_law_told g) (aC (SimB.of sim_int) (aC (nB 11) (aC (SimB.of sim_none) simBs_nil)))) (vC (cF g 281 (ok_law_told g) (aC (SimB.of sim_int) (aC (nB 9) (aC (nB 10) simBs_nil)))) (vC (cF g 281 (ok_law_told g) (aC (SimB.of sim_int) (aC (nB 1) (aC (nB 10) simBs_nil)))) (vC (cF g 281 (ok_law_told g) (aC (SimB.of sim_int) (aC (nB 9) (aC (SimB.of sim_str) simBs_nil)))) simVs_nil)))))) (simSs_cons (simS_If (cmpT (nB 12) (SimB.of (sim_List (vC (sim_List (vC sim_str (vC sim_str simVs_nil))) (vC (sim_List (vC sim_str (vC sim_str simVs_nil))) (vC (sim_List (vC sim_str (vC sim_str simVs_nil))) (vC (sim_List (vC sim_str (vC sim_str simVs_nil))) simVs_nil)))))) op_ne) (simSs_cons (simS_Return sim_bool) simSs_nil) simSs_nil) (simSs_cons (simS_Return (sim_BoolOp (simBo_cons (SimB.of (cmpV (SimB.of (cF g 170 (ok_row_text g) (aC (nB 2) simBs_nil))) (SimB.of (sub (nB 4) (SimB.of sim_int))) op_eq)) (simBo_one (cF g 286 (ok_law_right g) (aC (SimB.of (cF g 203 (ok_change_of g) (aC (nB 1) (aC (SimB.of (sub (nB 4) (SimB.of sim_int))) simBs_nil)))) (aC (nB 3) simBs_nil))))))) simSs_nil)))))))))))))) (len1 fun _ => by kernel_rfl)
end Mine
end

section
set_option Elab.async false
set_option maxRecDepth 100000
namespace Mine
open PySem PySem.W PyProof.Rows
theorem law04_enter (hlaw : ∀ (P : Params) (ns : List Int), ns.length ≤ 63 → F_law (hd.heap_1 P) [.list (ns.map .int)] = .ok (.sh (.bool true))) : PySem.Challenge.rw_uf010040_04.Holds := by
  refine hd ?_
  intro w s₀ s₁ mg mb G Y a o pm cd doc dV kV ho hd' hcd hD hmg hg args vals as hpre hlay hrd hwl hlo
  have KX : (hd.heap_1 w.params).In s₁.heap := kIn_of Y
  have T := G.T
  have g : Gr (gd PySem.Challenge.rw_uf010040_04.row.toRowW.prog w s₁.heap mg mb true) := ⟨⟨T.g, T.b, T.nolimit, KX⟩, ⟨_, _, topRead_of T⟩, T.builtins⟩
  have e : mg "law" = some (.ref 293) := mg_of KX T.g (by kernel_rfl)
  have ea : a = 293 := by
    have h : mg "law" = some (.ref a) := hmg
    rw [e] at h
    cases h; rfl
  subst ea
  exact law_end (l := PySem.Challenge.rw_uf010040_04) (ok_law g) (by decide) hg (n := 63) rfl rfl hpre hrd (hlaw w.params)
end Mine
end

section
set_option Elab.async false
set_option maxRecDepth 100000
set_option maxHeartbeats 4000000
set_option linter.unusedSimpArgs false
set_option linter.unusedVariables false
namespace Mine
open PySem PySem.W
theorem F_is_whole_eq (K : Frag) (d : D) (h : calm d = true) : F_is_whole K [d] = .ok (.sh (.bool (isW d))) := by
  cases d with
  | range _ _ _ => cases h
  | exc _ => cases h
  | glob _ => cases h
  | none => kernel_rfl
  | bool b => kernel_rfl
  | int i => kernel_rfl
  | str x => kernel_rfl
  | tup ds => kernel_rfl
  | list ds => kernel_rfl
theorem isTuple_eq (K : Frag) (d : D) (h : calm d = true) : isInstI K [d, .glob (.type "tuple")] = some (.sh (.bool (match d with | .tup _ => true | _ => false))) := by
  cases d with
  | range _ _ _ => cases h
  | exc _ => cases h
  | glob _ => cases h
  | none => kernel_rfl
  | bool b => kernel_rfl
  | int i => kernel_rfl
  | str x => kernel_rfl
  | tup ds => kernel_rfl
  | list ds => kernel_rfl
theorem F_need_bells_ok (K : Frag) (n : Int) (h3 : 3 ≤ n) (h12 : n ≤ 12) : F_need_bells K [.int n] = .ok (.sh .none) := by
  have e : F_is_whole K [.int n] = .ok (.sh (.bool true)) := F_is_whole_eq K (.int n) rfl
  have e1 := leI_t h3
  have e2 := leI_t h12
  unfold F_need_bells f_need_bells
  refine' run_of [some (.sh (.int n))] rfl rfl ?_ fin_next
  repeat' (first|(with_reducible first|assumption|exact Qa|exact Qb|exact Qc|apply Qd|exact Qe|apply Qf|exact Qg|apply Qh|exact Qi|apply Qj|exact Qk|apply Ql|apply Qm|exact Qn|exact Qo|apply Qp|exact Qq|exact Qr|apply Qs|exact Qt|exact Qu|exact Qv|exact Qw|exact Qx|exact Qy|exact Qz|apply QA|apply QB|apply QC|apply QD|apply QE|apply QF|apply QG|apply QH|apply QI|apply QJ|apply QK|apply QL|apply QM|apply QN|apply QO|apply QP|apply QQ|apply QR|apply QS|apply QT|apply QU|apply QV|apply QW|apply QX|apply QY|apply QZ|apply Q0|apply Q1|apply Q2|apply Q3|apply Q4|apply Q5|apply Q6|apply Q7|apply Q8|apply Q9|apply Xa|apply Xb|apply Xc|apply Xd|apply Xe|apply Xf|apply Xg|apply Xh|apply Xi|exact Xj|apply Xk.ok|exact Xk.exc|apply Xl.ok|exact Xl.exc|apply Xm.ok|exact Xm.exc|apply Xn.ok|exact Xn.exc|apply Xo.ok|exact Xo.exc|apply Xp.ok|exact Xp.exc|apply Xq.ok|exact Xq.exc|apply Xr.ok|exact Xr.exc|apply Xs.ok|exact Xs.exc|apply Xu.ok|exact Xu.exc|apply Xv.ok|exact Xv.exc|apply Xw.ok|exact Xw.exc|apply Xx.ok|exact Xx.exc|apply Xy.ok|exact Xy.exc|apply Xz.ok|exact Xz.exc|apply XA.ok|exact XA.exc|apply XB.ok|exact XB.exc|apply XC.ok|exact XC.exc|apply XD.ok|exact XD.exc|apply XE.ok|exact XE.exc|apply XF.ok|exact XF.exc|apply XG.ok|exact XG.exc|apply XH.ok|exact XH.exc|apply XI.ok|exact XI.exc|exact XJ.t|exact XJ.f|exact XJ.exc|apply XK.t|exact XK.f|exact XK.exc|exact XM.t|apply XM.f|exact XM.exc|apply XN.t|exact XN.f|apply XO.andT|exact XO.andF|apply XO.orF|exact XO.orT|apply XQ.next|exact XQ.ret|exact XQ.exc|exact XQ.cont|exact XQ.brk|apply XR.t|apply XR.f|exact XR.exc|exact XS.ok|apply XS.exc|exact XT|apply XU|apply XV.next|exact XV.ret|exact XV.exc|exact XW|exact XX)|exact XY rfl|apply XZ rfl Qa|apply XZ rfl Qb|exact (rfl : listFree _ = true)|exact X0 rfl|apply X1 rfl|exact X2 rfl|exact X3 rfl|exact (rfl : (_ : Option _) = some _)|decide)
theorem F_need_bells_bad (K : Frag) (d : D) (hc : calm d = true) (h : ∀ n, d = .int n → ¬ (3 ≤ n ∧ n ≤ 12)) : F_need_bells K [d] = .exc 37 := by
  have e := F_is_whole_eq K d hc
  unfold F_need_bells f_need_bells
  refine' run_of [some (.sh d)] rfl rfl ?_ fin_exc
  cases hw : isW d with
  | false =>
    rw [hw] at e
    repeat' (first|(with_reducible first|assumption|exact Qa|exact Qb|exact Qc|apply Qd|exact Qe|apply Qf|exact Qg|apply Qh|exact Qi|apply Qj|exact Qk|apply Ql|apply Qm|exact Qn|exact Qo|apply Qp|exact Qq|exact Qr|apply Qs|exact Qt|exact Qu|exact Qv|exact Qw|exact Qx|exact Qy|exact Qz|apply QA|apply QB|apply QC|apply QD|apply QE|apply QF|apply QG|apply QH|apply QI|apply QJ|apply QK|apply QL|apply QM|apply QN|apply QO|apply QP|apply QQ|apply QR|apply QS|apply QT|apply QU|apply QV|apply QW|apply QX|apply QY|apply QZ|apply Q0|apply Q1|apply Q2|apply Q3|apply Q4|apply Q5|apply Q6|apply Q7|apply Q8|apply Q9|apply Xa|apply Xb|apply Xc|apply Xd|apply Xe|apply Xf|apply Xg|apply Xh|apply Xi|exact Xj|apply Xk.ok|exact Xk.exc|apply Xl.ok|exact Xl.exc|apply Xm.ok|exact Xm.exc|apply Xn.ok|exact Xn.exc|apply Xo.ok|exact Xo.exc|apply Xp.ok|exact Xp.exc|apply Xq.ok|exact Xq.exc|apply Xr.ok|exact Xr.exc|apply Xs.ok|exact Xs.exc|apply Xu.ok|exact Xu.exc|apply Xv.ok|exact Xv.exc|apply Xw.ok|exact Xw.exc|apply Xx.ok|exact Xx.exc|apply Xy.ok|exact Xy.exc|apply Xz.ok|exact Xz.exc|apply XA.ok|exact XA.exc|apply XB.ok|exact XB.exc|apply XC.ok|exact XC.exc|apply XD.ok|exact XD.exc|apply XE.ok|exact XE.exc|apply XF.ok|exact XF.exc|apply XG.ok|exact XG.exc|apply XH.ok|exact XH.exc|apply XI.ok|exact XI.exc|exact XJ.t|exact XJ.f|exact XJ.exc|apply XK.t|exact XK.f|exact XK.exc|exact XM.t|apply XM.f|exact XM.exc|apply XN.t|exact XN.f|apply XO.andT|exact XO.andF|apply XO.orF|exact XO.orT|apply XQ.next|exact XQ.ret|exact XQ.exc|exact XQ.cont|exact XQ.brk|apply XR.t|apply XR.f|exact XR.exc|exact XS.ok|apply XS.exc|exact XT|apply XU|apply XV.next|exact XV.ret|exact XV.exc|exact XW|exact XX)|exact XY rfl|apply XZ rfl Qa|apply XZ rfl Qb|exact (rfl : listFree _ = true)|exact X0 rfl|apply X1 rfl|exact X2 rfl|exact X3 rfl|exact (rfl : (_ : Option _) = some _)|decide)
  | true =>
    cases d with
    | int n =>
      have := h n rfl
      rw [hw] at e
      by_cases h3 : 3 ≤ n
      · have h12 : ¬ n ≤ 12 := fun q => this ⟨h3, q⟩
        have e1 := leI_t h3
        have e2 := leI_f h12
        repeat' (first|(with_reducible first|assumption|exact Qa|exact Qb|exact Qc|apply Qd|exact Qe|apply Qf|exact Qg|apply Qh|exact Qi|apply Qj|exact Qk|apply Ql|apply Qm|exact Qn|exact Qo|apply Qp|exact Qq|exact Qr|apply Qs|exact Qt|exact Qu|exact Qv|exact Qw|exact Qx|exact Qy|exact Qz|apply QA|apply QB|apply QC|apply QD|apply QE|apply QF|apply QG|apply QH|apply QI|apply QJ|apply QK|apply QL|apply QM|apply QN|apply QO|apply QP|apply QQ|apply QR|apply QS|apply QT|apply QU|apply QV|apply QW|apply QX|apply QY|apply QZ|apply Q0|apply Q1|apply Q2|apply Q3|apply Q4|apply Q5|apply Q6|apply Q7|apply Q8|apply Q9|apply Xa|apply Xb|apply Xc|apply Xd|apply Xe|apply Xf|apply Xg|apply Xh|apply Xi|exact Xj|apply Xk.ok|exact Xk.exc|apply Xl.ok|exact Xl.exc|apply Xm.ok|exact Xm.exc|apply Xn.ok|exact Xn.exc|apply Xo.ok|exact Xo.exc|apply Xp.ok|exact Xp.exc|apply Xq.ok|exact Xq.exc|apply Xr.ok|exact Xr.exc|apply Xs.ok|exact Xs.exc|apply Xu.ok|exact Xu.exc|apply Xv.ok|exact Xv.exc|apply Xw.ok|exact Xw.exc|apply Xx.ok|exact Xx.exc|apply Xy.ok|exact Xy.exc|apply Xz.ok|exact Xz.exc|apply XA.ok|exact XA.exc|apply XB.ok|exact XB.exc|apply XC.ok|exact XC.exc|apply XD.ok|exact XD.exc|apply XE.ok|exact XE.exc|apply XF.ok|exact XF.exc|apply XG.ok|exact XG.exc|apply XH.ok|exact XH.exc|apply XI.ok|exact XI.exc|exact XJ.t|exact XJ.f|exact XJ.exc|apply XK.t|exact XK.f|exact XK.exc|exact XM.t|apply XM.f|exact XM.exc|apply XN.t|exact XN.f|apply XO.andT|exact XO.andF|apply XO.orF|exact XO.orT|apply XQ.next|exact XQ.ret|exact XQ.exc|exact XQ.cont|exact XQ.brk|apply XR.t|apply XR.f|exact XR.exc|exact XS.ok|apply XS.exc|exact XT|apply XU|apply XV.next|exact XV.ret|exact XV.exc|exact XW|exact XX)|exact XY rfl|apply XZ rfl Qa|apply XZ rfl Qb|exact (rfl : listFree _ = true)|exact X0 rfl|apply X1 rfl|exact X2 rfl|exact X3 rfl|exact (rfl : (_ : Option _) = some _)|decide)
      · have e1 := leI_f h3
        repeat' (first|(with_reducible first|assumption|exact Qa|exact Qb|exact Qc|apply Qd|exact Qe|apply Qf|exact Qg|apply Qh|exact Qi|apply Qj|exact Qk|apply Ql|apply Qm|exact Qn|exact Qo|apply Qp|exact Qq|exact Qr|apply Qs|exact Qt|exact Qu|exact Qv|exact Qw|exact Qx|exact Qy|exact Qz|apply QA|apply QB|apply QC|apply QD|apply QE|apply QF|apply QG|apply QH|apply QI|apply QJ|apply QK|apply QL|apply QM|apply QN|apply QO|apply QP|apply QQ|apply QR|apply QS|apply QT|apply QU|apply QV|apply QW|apply QX|apply QY|apply QZ|apply Q0|apply Q1|apply Q2|apply Q3|apply Q4|apply Q5|apply Q6|apply Q7|apply Q8|apply Q9|apply Xa|apply Xb|apply Xc|apply Xd|apply Xe|apply Xf|apply Xg|apply Xh|apply Xi|exact Xj|apply Xk.ok|exact Xk.exc|apply Xl.ok|exact Xl.exc|apply Xm.ok|exact Xm.exc|apply Xn.ok|exact Xn.exc|apply Xo.ok|exact Xo.exc|apply Xp.ok|exact Xp.exc|apply Xq.ok|exact Xq.exc|apply Xr.ok|exact Xr.exc|apply Xs.ok|exact Xs.exc|apply Xu.ok|exact Xu.exc|apply Xv.ok|exact Xv.exc|apply Xw.ok|exact Xw.exc|apply Xx.ok|exact Xx.exc|apply Xy.ok|exact Xy.exc|apply Xz.ok|exact Xz.exc|apply XA.ok|exact XA.exc|apply XB.ok|exact XB.exc|apply XC.ok|exact XC.exc|apply XD.ok|exact XD.exc|apply XE.ok|exact XE.exc|apply XF.ok|exact XF.exc|apply XG.ok|exact XG.exc|apply XH.ok|exact XH.exc|apply XI.ok|exact XI.exc|exact XJ.t|exact XJ.f|exact XJ.exc|apply XK.t|exact XK.f|exact XK.exc|exact XM.t|apply XM.f|exact XM.exc|apply XN.t|exact XN.f|apply XO.andT|exact XO.andF|apply XO.orF|exact XO.orT|apply XQ.next|exact XQ.ret|exact XQ.exc|exact XQ.cont|exact XQ.brk|apply XR.t|apply XR.f|exact XR.exc|exact XS.ok|apply XS.exc|exact XT|apply XU|apply XV.next|exact XV.ret|exact XV.exc|exact XW|exact XX)|exact XY rfl|apply XZ rfl Qa|apply XZ rfl Qb|exact (rfl : listFree _ = true)|exact X0 rfl|apply X1 rfl|exact X2 rfl|exact X3 rfl|exact (rfl : (_ : Option _) = some _)|decide)
    | _ => cases hw
theorem F_is_row_other (K : Frag) (d : D) (h : calm d = true) (ht : ∀ ds, d ≠ .tup ds) : F_is_row K [d] = .ok (.sh (.bool false)) := by
  have e := isTuple_eq K d h
  have e' : isInstI K [d, .glob (.type "tuple")] = some (.sh (.bool false)) := by
    rw [e]
    cases d <;> first | rfl | exact absurd rfl (ht _)
  clear e
  unfold F_is_row f_is_row
  refine' run_of [some (.sh d)] rfl rfl ?_ fin_ret
  repeat' (first|(with_reducible first|assumption|exact Qa|exact Qb|exact Qc|apply Qd|exact Qe|apply Qf|exact Qg|apply Qh|exact Qi|apply Qj|exact Qk|apply Ql|apply Qm|exact Qn|exact Qo|apply Qp|exact Qq|exact Qr|apply Qs|exact Qt|exact Qu|exact Qv|exact Qw|exact Qx|exact Qy|exact Qz|apply QA|apply QB|apply QC|apply QD|apply QE|apply QF|apply QG|apply QH|apply QI|apply QJ|apply QK|apply QL|apply QM|apply QN|apply QO|apply QP|apply QQ|apply QR|apply QS|apply QT|apply QU|apply QV|apply QW|apply QX|apply QY|apply QZ|apply Q0|apply Q1|apply Q2|apply Q3|apply Q4|apply Q5|apply Q6|apply Q7|apply Q8|apply Q9|apply Xa|apply Xb|apply Xc|apply Xd|apply Xe|apply Xf|apply Xg|apply Xh|apply Xi|exact Xj|apply Xk.ok|exact Xk.exc|apply Xl.ok|exact Xl.exc|apply Xm.ok|exact Xm.exc|apply Xn.ok|exact Xn.exc|apply Xo.ok|exact Xo.exc|apply Xp.ok|exact Xp.exc|apply Xq.ok|exact Xq.exc|apply Xr.ok|exact Xr.exc|apply Xs.ok|exact Xs.exc|apply Xu.ok|exact Xu.exc|apply Xv.ok|exact Xv.exc|apply Xw.ok|exact Xw.exc|apply Xx.ok|exact Xx.exc|apply Xy.ok|exact Xy.exc|apply Xz.ok|exact Xz.exc|apply XA.ok|exact XA.exc|apply XB.ok|exact XB.exc|apply XC.ok|exact XC.exc|apply XD.ok|exact XD.exc|apply XE.ok|exact XE.exc|apply XF.ok|exact XF.exc|apply XG.ok|exact XG.exc|apply XH.ok|exact XH.exc|apply XI.ok|exact XI.exc|exact XJ.t|exact XJ.f|exact XJ.exc|apply XK.t|exact XK.f|exact XK.exc|exact XM.t|apply XM.f|exact XM.exc|apply XN.t|exact XN.f|apply XO.andT|exact XO.andF|apply XO.orF|exact XO.orT|apply XQ.next|exact XQ.ret|exact XQ.exc|exact XQ.cont|exact XQ.brk|apply XR.t|apply XR.f|exact XR.exc|exact XS.ok|apply XS.exc|exact XT|apply XU|apply XV.next|exact XV.ret|exact XV.exc|exact XW|exact XX)|exact XY rfl|apply XZ rfl Qa|apply XZ rfl Qb|exact (rfl : listFree _ = true)|exact X0 rfl|apply X1 rfl|exact X2 rfl|exact X3 rfl|exact (rfl : (_ : Option _) = some _)|decide)
theorem F_is_row_len (K : Frag) (ds : List D) (hl : ds.length ≤ 1000000) (h : ¬ (3 ≤ ds.length ∧ ds.length ≤ 12)) : F_is_row K [.tup ds] = .ok (.sh (.bool false)) := by
  have e' : isInstI K [.tup ds, .glob (.type "tuple")] = some (.sh (.bool true)) := isTuple_eq K (.tup ds) rfl
  have e2 := lenI_tup hl
  unfold F_is_row f_is_row
  refine' run_of [some (.sh (.tup ds))] rfl rfl ?_ fin_ret
  by_cases h3 : 3 ≤ ds.length
  · have h12 : ¬ ((ds.length : Int) ≤ 12) := fun q => h ⟨h3, by omega⟩
    have h3' : (3 : Int) ≤ ds.length := by omega
    have e3 := leI_t h3'
    have e4 := leI_f h12
    repeat' (first|(with_reducible first|assumption|exact Qa|exact Qb|exact Qc|apply Qd|exact Qe|apply Qf|exact Qg|apply Qh|exact Qi|apply Qj|exact Qk|apply Ql|apply Qm|exact Qn|exact Qo|apply Qp|exact Qq|exact Qr|apply Qs|exact Qt|exact Qu|exact Qv|exact Qw|exact Qx|exact Qy|exact Qz|apply QA|apply QB|apply QC|apply QD|apply QE|apply QF|apply QG|apply QH|apply QI|apply QJ|apply QK|apply QL|apply QM|apply QN|apply QO|apply QP|apply QQ|apply QR|apply QS|apply QT|apply QU|apply QV|apply QW|apply QX|apply QY|apply QZ|apply Q0|apply Q1|apply Q2|apply Q3|apply Q4|apply Q5|apply Q6|apply Q7|apply Q8|apply Q9|apply Xa|apply Xb|apply Xc|apply Xd|apply Xe|apply Xf|apply Xg|apply Xh|apply Xi|exact Xj|apply Xk.ok|exact Xk.exc|apply Xl.ok|exact Xl.exc|apply Xm.ok|exact Xm.exc|apply Xn.ok|exact Xn.exc|apply Xo.ok|exact Xo.exc|apply Xp.ok|exact Xp.exc|apply Xq.ok|exact Xq.exc|apply Xr.ok|exact Xr.exc|apply Xs.ok|exact Xs.exc|apply Xu.ok|exact Xu.exc|apply Xv.ok|exact Xv.exc|apply Xw.ok|exact Xw.exc|apply Xx.ok|exact Xx.exc|apply Xy.ok|exact Xy.exc|apply Xz.ok|exact Xz.exc|apply XA.ok|exact XA.exc|apply XB.ok|exact XB.exc|apply XC.ok|exact XC.exc|apply XD.ok|exact XD.exc|apply XE.ok|exact XE.exc|apply XF.ok|exact XF.exc|apply XG.ok|exact XG.exc|apply XH.ok|exact XH.exc|apply XI.ok|exact XI.exc|exact XJ.t|exact XJ.f|exact XJ.exc|apply XK.t|exact XK.f|exact XK.exc|exact XM.t|apply XM.f|exact XM.exc|apply XN.t|exact XN.f|apply XO.andT|exact XO.andF|apply XO.orF|exact XO.orT|apply XQ.next|exact XQ.ret|exact XQ.exc|exact XQ.cont|exact XQ.brk|apply XR.t|apply XR.f|exact XR.exc|exact XS.ok|apply XS.exc|exact XT|apply XU|apply XV.next|exact XV.ret|exact XV.exc|exact XW|exact XX)|exact XY rfl|apply XZ rfl Qa|apply XZ rfl Qb|exact (rfl : listFree _ = true)|exact X0 rfl|apply X1 rfl|exact X2 rfl|exact X3 rfl|exact (rfl : (_ : Option _) = some _)|decide)
  · have h3' : ¬ ((3 : Int) ≤ ds.length) := by omega
    have e3 := leI_f h3'
    repeat' (first|(with_reducible first|assumption|exact Qa|exact Qb|exact Qc|apply Qd|exact Qe|apply Qf|exact Qg|apply Qh|exact Qi|apply Qj|exact Qk|apply Ql|apply Qm|exact Qn|exact Qo|apply Qp|exact Qq|exact Qr|apply Qs|exact Qt|exact Qu|exact Qv|exact Qw|exact Qx|exact Qy|exact Qz|apply QA|apply QB|apply QC|apply QD|apply QE|apply QF|apply QG|apply QH|apply QI|apply QJ|apply QK|apply QL|apply QM|apply QN|apply QO|apply QP|apply QQ|apply QR|apply QS|apply QT|apply QU|apply QV|apply QW|apply QX|apply QY|apply QZ|apply Q0|apply Q1|apply Q2|apply Q3|apply Q4|apply Q5|apply Q6|apply Q7|apply Q8|apply Q9|apply Xa|apply Xb|apply Xc|apply Xd|apply Xe|apply Xf|apply Xg|apply Xh|apply Xi|exact Xj|apply Xk.ok|exact Xk.exc|apply Xl.ok|exact Xl.exc|apply Xm.ok|exact Xm.exc|apply Xn.ok|exact Xn.exc|apply Xo.ok|exact Xo.exc|apply Xp.ok|exact Xp.exc|apply Xq.ok|exact Xq.exc|apply Xr.ok|exact Xr.exc|apply Xs.ok|exact Xs.exc|apply Xu.ok|exact Xu.exc|apply Xv.ok|exact Xv.exc|apply Xw.ok|exact Xw.exc|apply Xx.ok|exact Xx.exc|apply Xy.ok|exact Xy.exc|apply Xz.ok|exact Xz.exc|apply XA.ok|exact XA.exc|apply XB.ok|exact XB.exc|apply XC.ok|exact XC.exc|apply XD.ok|exact XD.exc|apply XE.ok|exact XE.exc|apply XF.ok|exact XF.exc|apply XG.ok|exact XG.exc|apply XH.ok|exact XH.exc|apply XI.ok|exact XI.exc|exact XJ.t|exact XJ.f|exact XJ.exc|apply XK.t|exact XK.f|exact XK.exc|exact XM.t|apply XM.f|exact XM.exc|apply XN.t|exact XN.f|apply XO.andT|exact XO.andF|apply XO.orF|exact XO.orT|apply XQ.next|exact XQ.ret|exact XQ.exc|exact XQ.cont|exact XQ.brk|apply XR.t|apply XR.f|exact XR.exc|exact XS.ok|apply XS.exc|exact XT|apply XU|apply XV.next|exact XV.ret|exact XV.exc|exact XW|exact XX)|exact XY rfl|apply XZ rfl Qa|apply XZ rfl Qb|exact (rfl : listFree _ = true)|exact X0 rfl|apply X1 rfl|exact X2 rfl|exact X3 rfl|exact (rfl : (_ : Option _) = some _)|decide)
theorem comp_whole (K : Frag) (ds : List D) (hl : ds.length ≤ 1000000) (h : ∀ d ∈ ds, calm d = true) : compN (bName 1) eAll (eCall (F_is_whole K) (eConsB (eOp 1) eNilB)) [none, none] ds [] = some (ds.map fun d => .bool (isW d)) := by
  refine compN_map ds (fun d hd => ?_) hl
  have e := F_is_whole_eq K d (h d hd)
  refine ⟨[none, some (.sh d)], .sh (.bool (isW d)), [none, some (.sh d)], rfl, ?_, rfl⟩
  repeat' (first|(with_reducible first|assumption|exact Qa|exact Qb|exact Qc|apply Qd|exact Qe|apply Qf|exact Qg|apply Qh|exact Qi|apply Qj|exact Qk|apply Ql|apply Qm|exact Qn|exact Qo|apply Qp|exact Qq|exact Qr|apply Qs|exact Qt|exact Qu|exact Qv|exact Qw|exact Qx|exact Qy|exact Qz|apply QA|apply QB|apply QC|apply QD|apply QE|apply QF|apply QG|apply QH|apply QI|apply QJ|apply QK|apply QL|apply QM|apply QN|apply QO|apply QP|apply QQ|apply QR|apply QS|apply QT|apply QU|apply QV|apply QW|apply QX|apply QY|apply QZ|apply Q0|apply Q1|apply Q2|apply Q3|apply Q4|apply Q5|apply Q6|apply Q7|apply Q8|apply Q9|apply Xa|apply Xb|apply Xc|apply Xd|apply Xe|apply Xf|apply Xg|apply Xh|apply Xi|exact Xj|apply Xk.ok|exact Xk.exc|apply Xl.ok|exact Xl.exc|apply Xm.ok|exact Xm.exc|apply Xn.ok|exact Xn.exc|apply Xo.ok|exact Xo.exc|apply Xp.ok|exact Xp.exc|apply Xq.ok|exact Xq.exc|apply Xr.ok|exact Xr.exc|apply Xs.ok|exact Xs.exc|apply Xu.ok|exact Xu.exc|apply Xv.ok|exact Xv.exc|apply Xw.ok|exact Xw.exc|apply Xx.ok|exact Xx.exc|apply Xy.ok|exact Xy.exc|apply Xz.ok|exact Xz.exc|apply XA.ok|exact XA.exc|apply XB.ok|exact XB.exc|apply XC.ok|exact XC.exc|apply XD.ok|exact XD.exc|apply XE.ok|exact XE.exc|apply XF.ok|exact XF.exc|apply XG.ok|exact XG.exc|apply XH.ok|exact XH.exc|apply XI.ok|exact XI.exc|exact XJ.t|exact XJ.f|exact XJ.exc|apply XK.t|exact XK.f|exact XK.exc|exact XM.t|apply XM.f|exact XM.exc|apply XN.t|exact XN.f|apply XO.andT|exact XO.andF|apply XO.orF|exact XO.orT|apply XQ.next|exact XQ.ret|exact XQ.exc|exact XQ.cont|exact XQ.brk|apply XR.t|apply XR.f|exact XR.exc|exact XS.ok|apply XS.exc|exact XT|apply XU|apply XV.next|exact XV.ret|exact XV.exc|exact XW|exact XX)|exact XY rfl|apply XZ rfl Qa|apply XZ rfl Qb|exact (rfl : listFree _ = true)|exact X0 rfl|apply X1 rfl|exact X2 rfl|exact X3 rfl|exact (rfl : (_ : Option _) = some _)|decide)
theorem boolsOf_map' (g : D → Bool) (ds : List D) : boolsOf (ds.map fun d => .bool (g d)) = some (ds.map g) := by
  have := boolsOf_map (ds.map g)
  rwa [List.map_map] at this
theorem calm_iL (ns : List Int) : ∀ d ∈ iL ns, calm d = true := fun d hd => by
  obtain ⟨i, _, rfl⟩ := List.mem_map.mp hd; rfl
theorem isW_iL (ns : List Int) : (iL ns).all isW = true := List.all_eq_true.mpr fun d hd => by
  obtain ⟨i, _, rfl⟩ := List.mem_map.mp hd; rfl
theorem iL_length (ns : List Int) : (iL ns).length = ns.length := by simp [iL]
theorem F_is_row_notW (K : Frag) (ds : List D) (h3 : 3 ≤ ds.length) (h12 : ds.length ≤ 12) (hc : ∀ d ∈ ds, calm d = true) (hw : ds.all isW = false) : F_is_row K [.tup ds] = .ok (.sh (.bool false)) := by
  have e' : isInstI K [.tup ds, .glob (.type "tuple")] = some (.sh (.bool true)) := isTuple_eq K (.tup ds) rfl
  have hl : ds.length ≤ 1000000 := by omega
  have cw := comp_whole K ds hl hc
  have e2 := lenI_tup hl
  have e3 := leI_t (show (3 : Int) ≤ ds.length by omega)
  have e4 := leI_t (show (ds.length : Int) ≤ 12 by omega)
  have hw' : (ds.map isW).all id = false := by rw [List.all_map]; exact hw
  have e5 : allI [.list (ds.map fun d => .bool (isW d))] = some (.sh (.bool false)) := by rw [allI, boolsOf_map', ← hw']; rfl
  unfold F_is_row f_is_row
  refine' run_of [some (.sh (.tup ds))] rfl rfl ?_ fin_ret
  repeat' (first|(with_reducible first|assumption|exact Qa|exact Qb|exact Qc|apply Qd|exact Qe|apply Qf|exact Qg|apply Qh|exact Qi|apply Qj|exact Qk|apply Ql|apply Qm|exact Qn|exact Qo|apply Qp|exact Qq|exact Qr|apply Qs|exact Qt|exact Qu|exact Qv|exact Qw|exact Qx|exact Qy|exact Qz|apply QA|apply QB|apply QC|apply QD|apply QE|apply QF|apply QG|apply QH|apply QI|apply QJ|apply QK|apply QL|apply QM|apply QN|apply QO|apply QP|apply QQ|apply QR|apply QS|apply QT|apply QU|apply QV|apply QW|apply QX|apply QY|apply QZ|apply Q0|apply Q1|apply Q2|apply Q3|apply Q4|apply Q5|apply Q6|apply Q7|apply Q8|apply Q9|apply Xa|apply Xb|apply Xc|apply Xd|apply Xe|apply Xf|apply Xg|apply Xh|apply Xi|exact Xj|apply Xk.ok|exact Xk.exc|apply Xl.ok|exact Xl.exc|apply Xm.ok|exact Xm.exc|apply Xn.ok|exact Xn.exc|apply Xo.ok|exact Xo.exc|apply Xp.ok|exact Xp.exc|apply Xq.ok|exact Xq.exc|apply Xr.ok|exact Xr.exc|apply Xs.ok|exact Xs.exc|apply Xu.ok|exact Xu.exc|apply Xv.ok|exact Xv.exc|apply Xw.ok|exact Xw.exc|apply Xx.ok|exact Xx.exc|apply Xy.ok|exact Xy.exc|apply Xz.ok|exact Xz.exc|apply XA.ok|exact XA.exc|apply XB.ok|exact XB.exc|apply XC.ok|exact XC.exc|apply XD.ok|exact XD.exc|apply XE.ok|exact XE.exc|apply XF.ok|exact XF.exc|apply XG.ok|exact XG.exc|apply XH.ok|exact XH.exc|apply XI.ok|exact XI.exc|exact XJ.t|exact XJ.f|exact XJ.exc|apply XK.t|exact XK.f|exact XK.exc|exact XM.t|apply XM.f|exact XM.exc|apply XN.t|exact XN.f|apply XO.andT|exact XO.andF|apply XO.orF|exact XO.orT|apply XQ.next|exact XQ.ret|exact XQ.exc|exact XQ.cont|exact XQ.brk|apply XR.t|apply XR.f|exact XR.exc|exact XS.ok|apply XS.exc|exact XT|apply XU|apply XV.next|exact XV.ret|exact XV.exc|exact XW|exact XX)|exact XY rfl|apply XZ rfl Qa|apply XZ rfl Qb|exact (rfl : listFree _ = true)|exact X0 rfl|apply X1 rfl|exact X2 rfl|exact X3 rfl|exact (rfl : (_ : Option _) = some _)|decide)
theorem F_is_row_ints (K : Frag) (ns : List Int) (h3 : 3 ≤ ns.length) (h12 : ns.length ≤ 12) : F_is_row K [.tup (iL ns)] = .ok (.sh (.bool (eqB (sortI ns) (rng ns.length)))) := by
  have e' : isInstI K [.tup (iL ns), .glob (.type "tuple")] = some (.sh (.bool true)) := isTuple_eq K (.tup (iL ns)) rfl
  have hl : (iL ns).length ≤ 1000000 := by rw [iL_length]; omega
  have cw := comp_whole K (iL ns) hl (calm_iL ns)
  have e2 := lenI_tup hl
  rw [iL_length] at e2
  have e3 := leI_t (show (3 : Int) ≤ ns.length by omega)
  have e4 := leI_t (show (ns.length : Int) ≤ 12 by omega)
  have hw' : ((iL ns).map isW).all id = true := by rw [List.all_map]; exact isW_iL ns
  have e5 : allI [.list ((iL ns).map fun d => .bool (isW d))] = some (.sh (.bool true)) := by rw [allI, boolsOf_map', ← hw']; rfl
  have e6 : sortedI [.tup (iL ns)] = some (.ow true (.list (iL (sortI ns)))) := by rw [sortedI, intsOf_iL, Option.bind_some, if_pos (by omega)]; rfl
  have e7 : listI [.range 0 ns.length 1] = some (.ow true (.list (iL (rng ns.length)))) := by rw [listI, rangeFit_rng _ (by omega), if_pos rfl, rangeL_rng]
  have e8 := eqI_list (sortI ns) (rng ns.length)
  unfold F_is_row f_is_row
  refine' run_of [some (.sh (.tup (iL ns)))] rfl rfl ?_ fin_ret
  repeat' (first|(with_reducible first|assumption|exact Qa|exact Qb|exact Qc|apply Qd|exact Qe|apply Qf|exact Qg|apply Qh|exact Qi|apply Qj|exact Qk|apply Ql|apply Qm|exact Qn|exact Qo|apply Qp|exact Qq|exact Qr|apply Qs|exact Qt|exact Qu|exact Qv|exact Qw|exact Qx|exact Qy|exact Qz|apply QA|apply QB|apply QC|apply QD|apply QE|apply QF|apply QG|apply QH|apply QI|apply QJ|apply QK|apply QL|apply QM|apply QN|apply QO|apply QP|apply QQ|apply QR|apply QS|apply QT|apply QU|apply QV|apply QW|apply QX|apply QY|apply QZ|apply Q0|apply Q1|apply Q2|apply Q3|apply Q4|apply Q5|apply Q6|apply Q7|apply Q8|apply Q9|apply Xa|apply Xb|apply Xc|apply Xd|apply Xe|apply Xf|apply Xg|apply Xh|apply Xi|exact Xj|apply Xk.ok|exact Xk.exc|apply Xl.ok|exact Xl.exc|apply Xm.ok|exact Xm.exc|apply Xn.ok|exact Xn.exc|apply Xo.ok|exact Xo.exc|apply Xp.ok|exact Xp.exc|apply Xq.ok|exact Xq.exc|apply Xr.ok|exact Xr.exc|apply Xs.ok|exact Xs.exc|apply Xu.ok|exact Xu.exc|apply Xv.ok|exact Xv.exc|apply Xw.ok|exact Xw.exc|apply Xx.ok|exact Xx.exc|apply Xy.ok|exact Xy.exc|apply Xz.ok|exact Xz.exc|apply XA.ok|exact XA.exc|apply XB.ok|exact XB.exc|apply XC.ok|exact XC.exc|apply XD.ok|exact XD.exc|apply XE.ok|exact XE.exc|apply XF.ok|exact XF.exc|apply XG.ok|exact XG.exc|apply XH.ok|exact XH.exc|apply XI.ok|exact XI.exc|exact XJ.t|exact XJ.f|exact XJ.exc|apply XK.t|exact XK.f|exact XK.exc|exact XM.t|apply XM.f|exact XM.exc|apply XN.t|exact XN.f|apply XO.andT|exact XO.andF|apply XO.orF|exact XO.orT|apply XQ.next|exact XQ.ret|exact XQ.exc|exact XQ.cont|exact XQ.brk|apply XR.t|apply XR.f|exact XR.exc|exact XS.ok|apply XS.exc|exact XT|apply XU|apply XV.next|exact XV.ret|exact XV.exc|exact XW|exact XX)|exact XY rfl|apply XZ rfl Qa|apply XZ rfl Qb|exact (rfl : listFree _ = true)|exact X0 rfl|apply X1 rfl|exact X2 rfl|exact X3 rfl|exact (rfl : (_ : Option _) = some _)|decide)
structure Row (n : Nat) (ns : List Int) : Prop where
  perm : ns.Perm (rng n)
  h3 : 3 ≤ n
  h12 : n ≤ 12
theorem Row.len {n : Nat} {ns : List Int} (r : Row n ns) : ns.length = n := by rw [r.perm.length_eq, rng_length]
theorem F_is_row_row (K : Frag) {n : Nat} {ns : List Int} (r : Row n ns) : F_is_row K [.tup (iL ns)] = .ok (.sh (.bool true)) := by
  rw [F_is_row_ints K ns (by rw [r.len]; exact r.h3) (by rw [r.len]; exact r.h12), r.len, eqB_true.mpr (sortI_rng.mpr r.perm)]
theorem F_is_row_bad (K : Frag) (ns : List Int) (h3 : 3 ≤ ns.length) (h12 : ns.length ≤ 12) (h : ¬ ns.Perm (rng ns.length)) : F_is_row K [.tup (iL ns)] = .ok (.sh (.bool false)) := by
  rw [F_is_row_ints K ns h3 h12, eqB_false.mpr fun q => h (sortI_rng.mp q)]
theorem F_need_row_ok (K : Frag) (d : D) (h : F_is_row K [d] = .ok (.sh (.bool true))) : F_need_row K [d] = .ok (.sh .none) := by
  unfold F_need_row f_need_row
  refine' run_of [some (.sh d)] rfl rfl ?_ fin_next
  repeat' (first|(with_reducible first|assumption|exact Qa|exact Qb|exact Qc|apply Qd|exact Qe|apply Qf|exact Qg|apply Qh|exact Qi|apply Qj|exact Qk|apply Ql|apply Qm|exact Qn|exact Qo|apply Qp|exact Qq|exact Qr|apply Qs|exact Qt|exact Qu|exact Qv|exact Qw|exact Qx|exact Qy|exact Qz|apply QA|apply QB|apply QC|apply QD|apply QE|apply QF|apply QG|apply QH|apply QI|apply QJ|apply QK|apply QL|apply QM|apply QN|apply QO|apply QP|apply QQ|apply QR|apply QS|apply QT|apply QU|apply QV|apply QW|apply QX|apply QY|apply QZ|apply Q0|apply Q1|apply Q2|apply Q3|apply Q4|apply Q5|apply Q6|apply Q7|apply Q8|apply Q9|apply Xa|apply Xb|apply Xc|apply Xd|apply Xe|apply Xf|apply Xg|apply Xh|apply Xi|exact Xj|apply Xk.ok|exact Xk.exc|apply Xl.ok|exact Xl.exc|apply Xm.ok|exact Xm.exc|apply Xn.ok|exact Xn.exc|apply Xo.ok|exact Xo.exc|apply Xp.ok|exact Xp.exc|apply Xq.ok|exact Xq.exc|apply Xr.ok|exact Xr.exc|apply Xs.ok|exact Xs.exc|apply Xu.ok|exact Xu.exc|apply Xv.ok|exact Xv.exc|apply Xw.ok|exact Xw.exc|apply Xx.ok|exact Xx.exc|apply Xy.ok|exact Xy.exc|apply Xz.ok|exact Xz.exc|apply XA.ok|exact XA.exc|apply XB.ok|exact XB.exc|apply XC.ok|exact XC.exc|apply XD.ok|exact XD.exc|apply XE.ok|exact XE.exc|apply XF.ok|exact XF.exc|apply XG.ok|exact XG.exc|apply XH.ok|exact XH.exc|apply XI.ok|exact XI.exc|exact XJ.t|exact XJ.f|exact XJ.exc|apply XK.t|exact XK.f|exact XK.exc|exact XM.t|apply XM.f|exact XM.exc|apply XN.t|exact XN.f|apply XO.andT|exact XO.andF|apply XO.orF|exact XO.orT|apply XQ.next|exact XQ.ret|exact XQ.exc|exact XQ.cont|exact XQ.brk|apply XR.t|apply XR.f|exact XR.exc|exact XS.ok|apply XS.exc|exact XT|apply XU|apply XV.next|exact XV.ret|exact XV.exc|exact XW|exact XX)|exact XY rfl|apply XZ rfl Qa|apply XZ rfl Qb|exact (rfl : listFree _ = true)|exact X0 rfl|apply X1 rfl|exact X2 rfl|exact X3 rfl|exact (rfl : (_ : Option _) = some _)|decide)
theorem F_need_row_bad (K : Frag) (d : D) (h : F_is_row K [d] = .ok (.sh (.bool false))) : F_need_row K [d] = .exc 49 := by
  unfold F_need_row f_need_row
  refine' run_of [some (.sh d)] rfl rfl ?_ fin_exc
  repeat' (first|(with_reducible first|assumption|exact Qa|exact Qb|exact Qc|apply Qd|exact Qe|apply Qf|exact Qg|apply Qh|exact Qi|apply Qj|exact Qk|apply Ql|apply Qm|exact Qn|exact Qo|apply Qp|exact Qq|exact Qr|apply Qs|exact Qt|exact Qu|exact Qv|exact Qw|exact Qx|exact Qy|exact Qz|apply QA|apply QB|apply QC|apply QD|apply QE|apply QF|apply QG|apply QH|apply QI|apply QJ|apply QK|apply QL|apply QM|apply QN|apply QO|apply QP|apply QQ|apply QR|apply QS|apply QT|apply QU|apply QV|apply QW|apply QX|apply QY|apply QZ|apply Q0|apply Q1|apply Q2|apply Q3|apply Q4|apply Q5|apply Q6|apply Q7|apply Q8|apply Q9|apply Xa|apply Xb|apply Xc|apply Xd|apply Xe|apply Xf|apply Xg|apply Xh|apply Xi|exact Xj|apply Xk.ok|exact Xk.exc|apply Xl.ok|exact Xl.exc|apply Xm.ok|exact Xm.exc|apply Xn.ok|exact Xn.exc|apply Xo.ok|exact Xo.exc|apply Xp.ok|exact Xp.exc|apply Xq.ok|exact Xq.exc|apply Xr.ok|exact Xr.exc|apply Xs.ok|exact Xs.exc|apply Xu.ok|exact Xu.exc|apply Xv.ok|exact Xv.exc|apply Xw.ok|exact Xw.exc|apply Xx.ok|exact Xx.exc|apply Xy.ok|exact Xy.exc|apply Xz.ok|exact Xz.exc|apply XA.ok|exact XA.exc|apply XB.ok|exact XB.exc|apply XC.ok|exact XC.exc|apply XD.ok|exact XD.exc|apply XE.ok|exact XE.exc|apply XF.ok|exact XF.exc|apply XG.ok|exact XG.exc|apply XH.ok|exact XH.exc|apply XI.ok|exact XI.exc|exact XJ.t|exact XJ.f|exact XJ.exc|apply XK.t|exact XK.f|exact XK.exc|exact XM.t|apply XM.f|exact XM.exc|apply XN.t|exact XN.f|apply XO.andT|exact XO.andF|apply XO.orF|exact XO.orT|apply XQ.next|exact XQ.ret|exact XQ.exc|exact XQ.cont|exact XQ.brk|apply XR.t|apply XR.f|exact XR.exc|exact XS.ok|apply XS.exc|exact XT|apply XU|apply XV.next|exact XV.ret|exact XV.exc|exact XW|exact XX)|exact XY rfl|apply XZ rfl Qa|apply XZ rfl Qb|exact (rfl : listFree _ = true)|exact X0 rfl|apply X1 rfl|exact X2 rfl|exact X3 rfl|exact (rfl : (_ : Option _) = some _)|decide)
theorem list_rng (n : Nat) (h : n ≤ 1000000) : listI [.range 0 n 1] = some (.ow true (.list (iL (rng n)))) := by rw [listI, rangeFit_rng _ h, if_pos rfl, rangeL_rng]
theorem items_rng (n : Nat) (h : n ≤ 1000000) : itemsD (.range 0 n 1) = some (iL (rng n)) := by rw [itemsD, rangeFit_rng _ h, if_pos rfl, rangeL_rng]
noncomputable def at' (a : List Int) (j : Int) : Int := a.getD j.toNat 0
theorem mem_rng {n : Nat} {i : Int} : i ∈ rng n ↔ 0 ≤ i ∧ i < n := by
  unfold rng
  rw [List.mem_map]
  constructor
  · rintro ⟨k, hk, rfl⟩
    have := List.mem_range.mp hk
    omega
  · rintro ⟨h0, h1⟩
    exact ⟨i.toNat, List.mem_range.mpr (by omega), by omega⟩
theorem Row.mem {n : Nat} {a : List Int} (r : Row n a) {i : Int} : i ∈ a ↔ 0 ≤ i ∧ i < n := by rw [r.perm.mem_iff]; exact mem_rng
theorem iL_get {a : List Int} {j : Nat} (h : j < a.length) : (iL a)[j]? = some (.int (a.getD j 0)) := by
  unfold iL
  rw [List.getElem?_map, List.getElem?_eq_getElem h, List.getD_eq_getElem?_getD, List.getElem?_eq_getElem h]; rfl
theorem tuple_list {ds : List D} (h : ds.length ≤ 1000000) : tupleI [.list ds] = some (.sh (.tup ds)) := by rw [tupleI, if_pos h]
theorem Row.nodup {n : Nat} {a : List Int} (r : Row n a) : a.Nodup := by
  rw [r.perm.nodup_iff]
  unfold rng List.Nodup
  rw [List.pairwise_map]
  exact (List.pairwise_lt_range (n := n)).imp fun h => by omega
theorem F_law_cell_ok (K : Frag) (ns : List Int) (k : Nat) (hl : ns.length ≤ 63) : F_law_cell K [.list (iL ns), .int k] = .ok (.sh (.int (ns.getD k 0))) := by
  have e1 := lenI_list (ds := iL ns) (by rw [iL_length]; omega)
  rw [iL_length] at e1
  unfold F_law_cell f_law_cell
  refine' run_of [some (.sh (.list (iL ns))), some (.sh (.int k))] rfl rfl ?_ fin_ret
  by_cases h : k < ns.length
  · have e2 := ltI_t (a := (k : Int)) (b := ns.length) (by omega)
    have e3 : idxI (.list (iL ns)) (.int k) = some (.sh (.int (ns.getD k 0))) := idxI_list (by omega) (by omega) (by rw [Int.toNat_natCast]; exact iL_get h)
    repeat' (first|(with_reducible first|assumption|exact Qa|exact Qb|exact Qc|apply Qd|exact Qe|apply Qf|exact Qg|apply Qh|exact Qi|apply Qj|exact Qk|apply Ql|apply Qm|exact Qn|exact Qo|apply Qp|exact Qq|exact Qr|apply Qs|exact Qt|exact Qu|exact Qv|exact Qw|exact Qx|exact Qy|exact Qz|apply QA|apply QB|apply QC|apply QD|apply QE|apply QF|apply QG|apply QH|apply QI|apply QJ|apply QK|apply QL|apply QM|apply QN|apply QO|apply QP|apply QQ|apply QR|apply QS|apply QT|apply QU|apply QV|apply QW|apply QX|apply QY|apply QZ|apply Q0|apply Q1|apply Q2|apply Q3|apply Q4|apply Q5|apply Q6|apply Q7|apply Q8|apply Q9|apply Xa|apply Xb|apply Xc|apply Xd|apply Xe|apply Xf|apply Xg|apply Xh|apply Xi|exact Xj|apply Xk.ok|exact Xk.exc|apply Xl.ok|exact Xl.exc|apply Xm.ok|exact Xm.exc|apply Xn.ok|exact Xn.exc|apply Xo.ok|exact Xo.exc|apply Xp.ok|exact Xp.exc|apply Xq.ok|exact Xq.exc|apply Xr.ok|exact Xr.exc|apply Xs.ok|exact Xs.exc|apply Xu.ok|exact Xu.exc|apply Xv.ok|exact Xv.exc|apply Xw.ok|exact Xw.exc|apply Xx.ok|exact Xx.exc|apply Xy.ok|exact Xy.exc|apply Xz.ok|exact Xz.exc|apply XA.ok|exact XA.exc|apply XB.ok|exact XB.exc|apply XC.ok|exact XC.exc|apply XD.ok|exact XD.exc|apply XE.ok|exact XE.exc|apply XF.ok|exact XF.exc|apply XG.ok|exact XG.exc|apply XH.ok|exact XH.exc|apply XI.ok|exact XI.exc|exact XJ.t|exact XJ.f|exact XJ.exc|apply XK.t|exact XK.f|exact XK.exc|exact XM.t|apply XM.f|exact XM.exc|apply XN.t|exact XN.f|apply XO.andT|exact XO.andF|apply XO.orF|exact XO.orT|apply XQ.next|exact XQ.ret|exact XQ.exc|exact XQ.cont|exact XQ.brk|apply XR.t|apply XR.f|exact XR.exc|exact XS.ok|apply XS.exc|exact XT|apply XU|apply XV.next|exact XV.ret|exact XV.exc|exact XW|exact XX)|exact XY rfl|apply XZ rfl Qa|apply XZ rfl Qb|exact (rfl : listFree _ = true)|exact X0 rfl|apply X1 rfl|exact X2 rfl|exact X3 rfl|exact (rfl : (_ : Option _) = some _)|decide)
  · have e2 := ltI_f (a := (k : Int)) (b := ns.length) (by omega)
    rw [show ns.getD k 0 = 0 by rw [List.getD_eq_getElem?_getD, List.getElem?_eq_none (by omega)]; rfl]
    repeat' (first|(with_reducible first|assumption|exact Qa|exact Qb|exact Qc|apply Qd|exact Qe|apply Qf|exact Qg|apply Qh|exact Qi|apply Qj|exact Qk|apply Ql|apply Qm|exact Qn|exact Qo|apply Qp|exact Qq|exact Qr|apply Qs|exact Qt|exact Qu|exact Qv|exact Qw|exact Qx|exact Qy|exact Qz|apply QA|apply QB|apply QC|apply QD|apply QE|apply QF|apply QG|apply QH|apply QI|apply QJ|apply QK|apply QL|apply QM|apply QN|apply QO|apply QP|apply QQ|apply QR|apply QS|apply QT|apply QU|apply QV|apply QW|apply QX|apply QY|apply QZ|apply Q0|apply Q1|apply Q2|apply Q3|apply Q4|apply Q5|apply Q6|apply Q7|apply Q8|apply Q9|apply Xa|apply Xb|apply Xc|apply Xd|apply Xe|apply Xf|apply Xg|apply Xh|apply Xi|exact Xj|apply Xk.ok|exact Xk.exc|apply Xl.ok|exact Xl.exc|apply Xm.ok|exact Xm.exc|apply Xn.ok|exact Xn.exc|apply Xo.ok|exact Xo.exc|apply Xp.ok|exact Xp.exc|apply Xq.ok|exact Xq.exc|apply Xr.ok|exact Xr.exc|apply Xs.ok|exact Xs.exc|apply Xu.ok|exact Xu.exc|apply Xv.ok|exact Xv.exc|apply Xw.ok|exact Xw.exc|apply Xx.ok|exact Xx.exc|apply Xy.ok|exact Xy.exc|apply Xz.ok|exact Xz.exc|apply XA.ok|exact XA.exc|apply XB.ok|exact XB.exc|apply XC.ok|exact XC.exc|apply XD.ok|exact XD.exc|apply XE.ok|exact XE.exc|apply XF.ok|exact XF.exc|apply XG.ok|exact XG.exc|apply XH.ok|exact XH.exc|apply XI.ok|exact XI.exc|exact XJ.t|exact XJ.f|exact XJ.exc|apply XK.t|exact XK.f|exact XK.exc|exact XM.t|apply XM.f|exact XM.exc|apply XN.t|exact XN.f|apply XO.andT|exact XO.andF|apply XO.orF|exact XO.orT|apply XQ.next|exact XQ.ret|exact XQ.exc|exact XQ.cont|exact XQ.brk|apply XR.t|apply XR.f|exact XR.exc|exact XS.ok|apply XS.exc|exact XT|apply XU|apply XV.next|exact XV.ret|exact XV.exc|exact XW|exact XX)|exact XY rfl|apply XZ rfl Qa|apply XZ rfl Qb|exact (rfl : listFree _ = true)|exact X0 rfl|apply X1 rfl|exact X2 rfl|exact X3 rfl|exact (rfl : (_ : Option _) = some _)|decide)
noncomputable def mix (c k : Int) : Int := (c * 48271 + 7919 * k * k + 104729 * k + 12345).fmod 2147483647
theorem fmod_nonneg (a : Int) {b : Int} (h : 0 < b) : 0 ≤ a.fmod b := by rw [Int.fmod_eq_emod_of_nonneg _ (by omega)]; exact Int.emod_nonneg _ (by omega)
theorem fmod_lt (a : Int) {b : Int} (h : 0 < b) : a.fmod b < b := by rw [Int.fmod_eq_emod_of_nonneg _ (by omega)]; exact Int.emod_lt_of_pos _ h
theorem F_law_mix_ok (K : Frag) (c k : Int) (hk : small k = true) : F_law_mix K [.int c, .int k] = .ok (.sh (.int (mix c k))) := by
  have e1 : mulD (.int (7919 * k)) (.int k) = some (.sh (.int (7919 * k * k))) := Q7 (by rw [hk, Bool.or_true])
  have e2 : mulD (.int 7919) (.int k) = some (.sh (.int (7919 * k))) := Q7 (by rw [hk, Bool.or_true])
  have e3 : mulD (.int 104729) (.int k) = some (.sh (.int (104729 * k))) := Q7 (by rw [hk, Bool.or_true])
  have e4 : mulD (.int c) (.int 48271) = some (.sh (.int (c * 48271))) := Q7 (by rw [small_of (b := 48271) (by decide), Bool.or_true])
  unfold F_law_mix f_law_mix
  refine' run_of [some (.sh (.int c)), some (.sh (.int k))] rfl rfl ?_ fin_ret
  unfold mix
  repeat' (first|(with_reducible first|assumption|exact Qa|exact Qb|exact Qc|apply Qd|exact Qe|apply Qf|exact Qg|apply Qh|exact Qi|apply Qj|exact Qk|apply Ql|apply Qm|exact Qn|exact Qo|apply Qp|exact Qq|exact Qr|apply Qs|exact Qt|exact Qu|exact Qv|exact Qw|exact Qx|exact Qy|exact Qz|apply QA|apply QB|apply QC|apply QD|apply QE|apply QF|apply QG|apply QH|apply QI|apply QJ|apply QK|apply QL|apply QM|apply QN|apply QO|apply QP|apply QQ|apply QR|apply QS|apply QT|apply QU|apply QV|apply QW|apply QX|apply QY|apply QZ|apply Q0|apply Q1|apply Q2|apply Q3|apply Q4|apply Q5|apply Q6|apply Q7|apply Q8|apply Q9|apply Xa|apply Xb|apply Xc|apply Xd|apply Xe|apply Xf|apply Xg|apply Xh|apply Xi|exact Xj|apply Xk.ok|exact Xk.exc|apply Xl.ok|exact Xl.exc|apply Xm.ok|exact Xm.exc|apply Xn.ok|exact Xn.exc|apply Xo.ok|exact Xo.exc|apply Xp.ok|exact Xp.exc|apply Xq.ok|exact Xq.exc|apply Xr.ok|exact Xr.exc|apply Xs.ok|exact Xs.exc|apply Xu.ok|exact Xu.exc|apply Xv.ok|exact Xv.exc|apply Xw.ok|exact Xw.exc|apply Xx.ok|exact Xx.exc|apply Xy.ok|exact Xy.exc|apply Xz.ok|exact Xz.exc|apply XA.ok|exact XA.exc|apply XB.ok|exact XB.exc|apply XC.ok|exact XC.exc|apply XD.ok|exact XD.exc|apply XE.ok|exact XE.exc|apply XF.ok|exact XF.exc|apply XG.ok|exact XG.exc|apply XH.ok|exact XH.exc|apply XI.ok|exact XI.exc|exact XJ.t|exact XJ.f|exact XJ.exc|apply XK.t|exact XK.f|exact XK.exc|exact XM.t|apply XM.f|exact XM.exc|apply XN.t|exact XN.f|apply XO.andT|exact XO.andF|apply XO.orF|exact XO.orT|apply XQ.next|exact XQ.ret|exact XQ.exc|exact XQ.cont|exact XQ.brk|apply XR.t|apply XR.f|exact XR.exc|exact XS.ok|apply XS.exc|exact XT|apply XU|apply XV.next|exact XV.ret|exact XV.exc|exact XW|exact XX)|exact XY rfl|apply XZ rfl Qa|apply XZ rfl Qb|exact (rfl : listFree _ = true)|exact X0 rfl|apply X1 rfl|exact X2 rfl|exact X3 rfl|exact (rfl : (_ : Option _) = some _)|decide)
theorem perm_pop (l : List Int) (j : Nat) (h : j < l.length) : (l.getD j 0 :: l.eraseIdx j).Perm l := by
  induction l generalizing j with
  | nil => cases h
  | cons x l ih =>
    cases j with
    | zero => exact .refl _
    | succ j =>
      rw [List.eraseIdx_cons_succ]
      exact (List.Perm.swap _ _ _).trans ((ih j (by simpa using h)).cons x)
theorem iL_erase (l : List Int) (j : Nat) : (iL l).eraseIdx j = iL (l.eraseIdx j) := by 
  induction l generalizing j with
  | nil => rfl
  | cons x l ih =>
    cases j with
    | zero => rfl
    | succ j =>
      show _ :: (iL l).eraseIdx j = _ :: iL (l.eraseIdx j)
      rw [ih]
theorem iL_app (l m : List Int) : iL l ++ iL m = iL (l ++ m) := by unfold iL; rw [List.map_append]
theorem row_loop (K : Frag) (c : Int) (n : Nat) (h12 : n ≤ 12) : ∃ found v, forN (bName 4) (sSeq (sExpr (eVal (eAppend 3 (ePop 2 (eVal (eOp2 modI (eVal (eOp2 divI (eVal (eCall (F_law_mix K) (eConsB (eOp 0) (eConsB (eOp 4) eNilB)))) (eVal (eConst (.int 7))))) (eVal (eOpN lenS (eConsB (eOp 2) eNilB))))))))) sNil) (iL (rng n)) [some (.sh (.int c)), some (.sh (.int n)), some (.ow true (.list (iL (rng n)))), some (.ow true (.list [])), none] = .ok .next [some (.sh (.int c)), some (.sh (.int n)), some (.ow true (.list [])), some (.ow true (.list (iL found))), v] ∧ found.Perm (rng n) := by
  obtain ⟨ρ', h1, left, found, v, rfl, hp, hl, hm⟩ := forN_ex (b := bName 4) (sf := (sSeq (sExpr (eVal (eAppend 3 (ePop 2 (eVal (eOp2 modI (eVal (eOp2 divI (eVal (eCall (F_law_mix K) (eConsB (eOp 0) (eConsB (eOp 4) eNilB)))) (eVal (eConst (.int 7))))) (eVal (eOpN lenS (eConsB (eOp 2) eNilB))))))))) sNil)) (fun ρ ds => ∃ (left found : List Int) (v : Option T), ρ = [some (.sh (.int c)), some (.sh (.int n)), some (.ow true (.list (iL left))), some (.ow true (.list (iL found))), v] ∧ (found ++ left).Perm (rng n) ∧ left.length = ds.length ∧ ∀ d ∈ ds, ∃ k : Int, d = .int k ∧ small k = true) (by
    rintro ρ d ds ⟨left, found, v, rfl, hp, hl, hm⟩
    obtain ⟨k, rfl, hk⟩ := hm d (.head _)
    have hn : (found ++ left).length = n := by rw [hp.length_eq, rng_length]
    rw [List.length_append] at hn
    rw [List.length_cons] at hl
    have e1 := F_law_mix_ok K c k hk
    have hl' : (iL left).length ≤ 1000000 := by rw [iL_length]; omega
    have hf' : (iL found).length ≤ 1000000 := by rw [iL_length]; omega
    have e2 := lenI_list hl'
    rw [iL_length] at e2
    have e3 : modI (.int ((mix c k).fdiv 7)) (.int left.length) = some (.sh (.int (((mix c k).fdiv 7).fmod left.length))) := Q5 (by omega)
    generalize hj : ((mix c k).fdiv 7).fmod left.length = j at e3
    have hj0 : 0 ≤ j := by rw [← hj]; exact fmod_nonneg _ (by omega)
    have hj1 : j < left.length := by rw [← hj]; exact fmod_lt _ (by omega)
    have e4 : (0 : Int) ≤ j ∧ j < ((iL left).length : Int) := by rw [iL_length]; exact ⟨hj0, hj1⟩
    have e5 : (iL left)[j.toNat]? = some (.int (left.getD j.toNat 0)) := iL_get (by omega)
    refine ⟨[some (.sh (.int c)), some (.sh (.int n)), some (.ow true (.list (iL left))), some (.ow true (.list (iL found))), some (.sh (.int k))], [some (.sh (.int c)), some (.sh (.int n)), some (.ow true (.list (iL (left.eraseIdx j.toNat)))), some (.ow true (.list (iL (found ++ [left.getD j.toNat 0])))), some (.sh (.int k))], rfl, ?_, _, _, _, rfl, ?_, ?_, fun d hd => hm d (.tail _ hd)⟩
    · rw [← iL_app, ← iL_erase]
      show _ = Res.ok Fl.next [some (.sh (.int c)), some (.sh (.int n)), some (.ow true (.list ((iL left).eraseIdx j.toNat))), some (.ow true (.list (iL found ++ [.int (left.getD j.toNat 0)]))), some (.sh (.int k))]
      repeat' (first|(with_reducible first|assumption|exact Qa|exact Qb|exact Qc|apply Qd|exact Qe|apply Qf|exact Qg|apply Qh|exact Qi|apply Qj|exact Qk|apply Ql|apply Qm|exact Qn|exact Qo|apply Qp|exact Qq|exact Qr|apply Qs|exact Qt|exact Qu|exact Qv|exact Qw|exact Qx|exact Qy|exact Qz|apply QA|apply QB|apply QC|apply QD|apply QE|apply QF|apply QG|apply QH|apply QI|apply QJ|apply QK|apply QL|apply QM|apply QN|apply QO|apply QP|apply QQ|apply QR|apply QS|apply QT|apply QU|apply QV|apply QW|apply QX|apply QY|apply QZ|apply Q0|apply Q1|apply Q2|apply Q3|apply Q4|apply Q5|apply Q6|apply Q7|apply Q8|apply Q9|apply Xa|apply Xb|apply Xc|apply Xd|apply Xe|apply Xf|apply Xg|apply Xh|apply Xi|exact Xj|apply Xk.ok|exact Xk.exc|apply Xl.ok|exact Xl.exc|apply Xm.ok|exact Xm.exc|apply Xn.ok|exact Xn.exc|apply Xo.ok|exact Xo.exc|apply Xp.ok|exact Xp.exc|apply Xq.ok|exact Xq.exc|apply Xr.ok|exact Xr.exc|apply Xs.ok|exact Xs.exc|apply Xu.ok|exact Xu.exc|apply Xv.ok|exact Xv.exc|apply Xw.ok|exact Xw.exc|apply Xx.ok|exact Xx.exc|apply Xy.ok|exact Xy.exc|apply Xz.ok|exact Xz.exc|apply XA.ok|exact XA.exc|apply XB.ok|exact XB.exc|apply XC.ok|exact XC.exc|apply XD.ok|exact XD.exc|apply XE.ok|exact XE.exc|apply XF.ok|exact XF.exc|apply XG.ok|exact XG.exc|apply XH.ok|exact XH.exc|apply XI.ok|exact XI.exc|exact XJ.t|exact XJ.f|exact XJ.exc|apply XK.t|exact XK.f|exact XK.exc|exact XM.t|apply XM.f|exact XM.exc|apply XN.t|exact XN.f|apply XO.andT|exact XO.andF|apply XO.orF|exact XO.orT|apply XQ.next|exact XQ.ret|exact XQ.exc|exact XQ.cont|exact XQ.brk|apply XR.t|apply XR.f|exact XR.exc|exact XS.ok|apply XS.exc|exact XT|apply XU|apply XV.next|exact XV.ret|exact XV.exc|exact XW|exact XX)|exact XY rfl|apply XZ rfl Qa|apply XZ rfl Qb|exact (rfl : listFree _ = true)|exact X0 rfl|apply X1 rfl|exact X2 rfl|exact X3 rfl|exact (rfl : (_ : Option _) = some _)|decide)
    · rw [List.append_assoc]
      exact ((perm_pop left j.toNat (by omega)).append_left found).trans hp
    · rw [List.length_eraseIdx_of_lt (by omega)]; omega) (iL (rng n)) _ ⟨rng n, [], none, rfl, .refl _, by rw [rng_length, iL_length, rng_length], fun d hd => by
      obtain ⟨i, hi, rfl⟩ := List.mem_map.mp hd
      have := mem_rng.mp hi
      exact ⟨i, rfl, small_of (by omega)⟩⟩
  have : left = [] := List.length_eq_zero_iff.mp hl
  subst this
  rw [List.append_nil] at hp
  exact ⟨found, v, h1, hp⟩
theorem F_law_row_ok (K : Frag) (c : Int) (n : Nat) (h3 : 3 ≤ n) (h12 : n ≤ 12) : ∃ a, F_law_row K [.int c, .int n] = .ok (.sh (.tup (iL a))) ∧ Row n a := by
  obtain ⟨found, v, h1, hp⟩ := row_loop K c n h12
  refine ⟨found, ?_, hp, h3, h12⟩
  have e1 := list_rng n (by omega)
  have e2 := items_rng n (by omega)
  have e3 := tuple_list (ds := iL found) (by rw [iL_length, hp.length_eq, rng_length]; omega)
  unfold F_law_row f_law_row
  refine' run_of [some (.sh (.int c)), some (.sh (.int n)), none, none, none] rfl rfl ?_ fin_ret
  repeat' (first|(with_reducible first|assumption|exact Qa|exact Qb|exact Qc|apply Qd|exact Qe|apply Qf|exact Qg|apply Qh|exact Qi|apply Qj|exact Qk|apply Ql|apply Qm|exact Qn|exact Qo|apply Qp|exact Qq|exact Qr|apply Qs|exact Qt|exact Qu|exact Qv|exact Qw|exact Qx|exact Qy|exact Qz|apply QA|apply QB|apply QC|apply QD|apply QE|apply QF|apply QG|apply QH|apply QI|apply QJ|apply QK|apply QL|apply QM|apply QN|apply QO|apply QP|apply QQ|apply QR|apply QS|apply QT|apply QU|apply QV|apply QW|apply QX|apply QY|apply QZ|apply Q0|apply Q1|apply Q2|apply Q3|apply Q4|apply Q5|apply Q6|apply Q7|apply Q8|apply Q9|apply Xa|apply Xb|apply Xc|apply Xd|apply Xe|apply Xf|apply Xg|apply Xh|apply Xi|exact Xj|apply Xk.ok|exact Xk.exc|apply Xl.ok|exact Xl.exc|apply Xm.ok|exact Xm.exc|apply Xn.ok|exact Xn.exc|apply Xo.ok|exact Xo.exc|apply Xp.ok|exact Xp.exc|apply Xq.ok|exact Xq.exc|apply Xr.ok|exact Xr.exc|apply Xs.ok|exact Xs.exc|apply Xu.ok|exact Xu.exc|apply Xv.ok|exact Xv.exc|apply Xw.ok|exact Xw.exc|apply Xx.ok|exact Xx.exc|apply Xy.ok|exact Xy.exc|apply Xz.ok|exact Xz.exc|apply XA.ok|exact XA.exc|apply XB.ok|exact XB.exc|apply XC.ok|exact XC.exc|apply XD.ok|exact XD.exc|apply XE.ok|exact XE.exc|apply XF.ok|exact XF.exc|apply XG.ok|exact XG.exc|apply XH.ok|exact XH.exc|apply XI.ok|exact XI.exc|exact XJ.t|exact XJ.f|exact XJ.exc|apply XK.t|exact XK.f|exact XK.exc|exact XM.t|apply XM.f|exact XM.exc|apply XN.t|exact XN.f|apply XO.andT|exact XO.andF|apply XO.orF|exact XO.orT|apply XQ.next|exact XQ.ret|exact XQ.exc|exact XQ.cont|exact XQ.brk|apply XR.t|apply XR.f|exact XR.exc|exact XS.ok|apply XS.exc|exact XT|apply XU|apply XV.next|exact XV.ret|exact XV.exc|exact XW|exact XX)|exact XY rfl|apply XZ rfl Qa|apply XZ rfl Qb|exact (rfl : listFree _ = true)|exact X0 rfl|apply X1 rfl|exact X2 rfl|exact X3 rfl|exact (rfl : (_ : Option _) = some _)|decide)
structure Odd (K : Frag) (d : D) : Prop where
  calm : calm d = true
  no : F_is_row K [d] = .ok (.sh (.bool false))
theorem odd_put (K : Frag) {n : Nat} {a : List Int} (r : Row n a) {p : Nat} (hp : p < n) (x : D) (hx : calm x = true) (hb : ∀ v, x = .int v → ¬ (0 ≤ v ∧ v < n) ∨ ∃ q, q < n ∧ q ≠ p ∧ v = a.getD q 0) : Odd K (.tup ((iL a).take p ++ [x] ++ (iL a).drop (p + 1))) := by
  refine ⟨rfl, ?_⟩
  have hl : ((iL a).take p ++ [x] ++ (iL a).drop (p + 1)).length = n := by
    simp only [List.length_append, List.length_take, List.length_drop, List.length_cons, List.length_nil, iL_length, r.len]
    omega
  have h3 := r.h3
  have h12 := r.h12
  cases hw : isW x with
  | false =>
    refine F_is_row_notW K _ (by omega) (by omega) (fun d hd => ?_) ?_
    · rw [List.mem_append, List.mem_append] at hd
      rcases hd with (hd | hd) | hd
      · exact calm_iL a d (List.mem_of_mem_take hd)
      · rw [List.mem_singleton.mp hd]; exact hx
      · exact calm_iL a d (List.mem_of_mem_drop hd)
    · rw [List.all_append, List.all_append, List.all_cons, hw]; simp
  | true =>
    cases x with
    | int v =>
      have e : (iL a).take p ++ [D.int v] ++ (iL a).drop (p + 1) = iL (a.set p v) := by
        rw [List.set_eq_take_append_cons_drop, if_pos (by rw [r.len]; exact hp)]
        unfold iL
        simp
      rw [e]
      have hl' : (a.set p v).length = n := by rw [List.length_set, r.len]
      refine F_is_row_bad K _ (by omega) (by omega) fun q => ?_
      rw [hl'] at q
      have hpl : p < a.length := by rw [r.len]; exact hp
      rcases hb v rfl with h | ⟨m, hm, hne, hv⟩
      · refine h (mem_rng.mp (q.mem_iff.mp ?_))
        exact List.mem_iff_getElem.mpr ⟨p, by omega, by simp⟩
      · have nd := (⟨q, h3, h12⟩ : Row n _).nodup
        have hml : m < a.length := by rw [r.len]; exact hm
        have i1 : (a.set p v)[p]'(by omega) = (a.set p v)[m]'(by omega) := by
          rw [List.getElem_set_self, List.getElem_set_ne (fun q => hne q.symm)]
          refine hv.trans ?_
          rw [List.getD_eq_getElem?_getD, List.getElem?_eq_getElem hml]; rfl
        exact hne ((List.getElem_inj nd).mp i1).symm
    | _ => cases hw
theorem fmod_nat (a : Int) {n : Nat} (h : 0 < n) : ∃ p : Nat, a.fmod n = p ∧ p < n := by
  have h0 := fmod_nonneg a (b := n) (by omega)
  have h1 := fmod_lt a (b := n) (by omega)
  exact ⟨(a.fmod n).toNat, by omega, by omega⟩
theorem so_refused : PyData.strOk "refused" = true := by decide +kernel
theorem so_row : PyData.strOk "row" = true := by decide +kernel
theorem so_bells : PyData.strOk "bells" = true := by decide +kernel
theorem three (c : Int) : ∃ n : Nat, 3 ≤ n ∧ n ≤ 12 ∧ ∃ r, modI (.int c) (.int 10) = some (.sh (.int r)) ∧ addD (.int 3) (.int r) = some (.sh (.int n)) := by
  obtain ⟨t, ht, ht5⟩ := fmod_nat c (n := 10) (by decide)
  refine ⟨3 + t, by omega, by omega, t, ?_, ?_⟩
  · rw [Q5 (by decide)]; rw [show c.fmod 10 = t from ht]
  · rw [addD]; rfl
noncomputable def plOk (n : Int) : Int → List D → Bool
  | _, [] => true
  | ah, .int p :: r => decide (ah + 2 ≤ p) && decide (p ≤ n - 2) && plOk n p r
  | _, _ :: _ => false
theorem places_loop (K : Frag) (n : Int) {dch : D} {ds : List D} (hc : ∀ d ∈ ds, calm d = true) : ∃ r, forN (bName 3) (sSeq (sIf (eOr (eNot (eTruth (eVal (eCall (F_is_whole K) (eConsB (eOp 3) eNilB))))) (eOr (eNot (eChain leI leI (eVal (eOp2 addS (eOp 2) (eVal (eConst (.int 2))))) (eOp 3) (eVal (eOp2 subI (eOp 0) (eVal (eConst (.int 2))))))) eOrNil)) (sSeq (sRaise 61 (eCons (eConst (.str "no place of a change")) eNil)) sNil) sNil) (sSeq (sAssign 2 (eVar 3)) sNil)) ds [some (.sh (.int n)), some (.sh dch), some (.sh (.int (-2))), none] = r ∧ (if plOk n (-2) ds then ∃ ρ, r = .ok .next ρ else ∃ ρ, r = .exc 61 ρ) := by
  refine for_ex (fun ρ ds' => ∃ (ah : Int) (v : Option T), ρ = [some (.sh (.int n)), some (.sh dch), some (.sh (.int ah)), v] ∧ plOk n ah ds' = plOk n (-2) ds ∧ ∀ d ∈ ds', calm d = true) _ ?_ ?_ ds _ ⟨-2, none, rfl, rfl, hc⟩
  · rintro ρ ⟨ah, v, rfl, h, _⟩
    rw [← h, plOk, if_pos rfl]; exact ⟨_, rfl⟩
  · rintro ρ d ds' ⟨ah, v, rfl, h, hc⟩
    have hd := hc d (.head _)
    have e := F_is_whole_eq K d hd
    refine ⟨[some (.sh (.int n)), some (.sh dch), some (.sh (.int ah)), some (.sh d)], ?_⟩
    cases hw : isW d with
    | false =>
      rw [hw] at e
      have hp : plOk n (-2) ds = false := by rw [← h]; cases d <;> first | rfl | cases hw
      refine ⟨.exc 61 [some (.sh (.int n)), some (.sh dch), some (.sh (.int ah)), some (.sh d)], rfl, ?_, ?_⟩
      · repeat' (first|(with_reducible first|assumption|exact Qa|exact Qb|exact Qc|apply Qd|exact Qe|apply Qf|exact Qg|apply Qh|exact Qi|apply Qj|exact Qk|apply Ql|apply Qm|exact Qn|exact Qo|apply Qp|exact Qq|exact Qr|apply Qs|exact Qt|exact Qu|exact Qv|exact Qw|exact Qx|exact Qy|exact Qz|apply QA|apply QB|apply QC|apply QD|apply QE|apply QF|apply QG|apply QH|apply QI|apply QJ|apply QK|apply QL|apply QM|apply QN|apply QO|apply QP|apply QQ|apply QR|apply QS|apply QT|apply QU|apply QV|apply QW|apply QX|apply QY|apply QZ|apply Q0|apply Q1|apply Q2|apply Q3|apply Q4|apply Q5|apply Q6|apply Q7|apply Q8|apply Q9|apply Xa|apply Xb|apply Xc|apply Xd|apply Xe|apply Xf|apply Xg|apply Xh|apply Xi|exact Xj|apply Xk.ok|exact Xk.exc|apply Xl.ok|exact Xl.exc|apply Xm.ok|exact Xm.exc|apply Xn.ok|exact Xn.exc|apply Xo.ok|exact Xo.exc|apply Xp.ok|exact Xp.exc|apply Xq.ok|exact Xq.exc|apply Xr.ok|exact Xr.exc|apply Xs.ok|exact Xs.exc|apply Xu.ok|exact Xu.exc|apply Xv.ok|exact Xv.exc|apply Xw.ok|exact Xw.exc|apply Xx.ok|exact Xx.exc|apply Xy.ok|exact Xy.exc|apply Xz.ok|exact Xz.exc|apply XA.ok|exact XA.exc|apply XB.ok|exact XB.exc|apply XC.ok|exact XC.exc|apply XD.ok|exact XD.exc|apply XE.ok|exact XE.exc|apply XF.ok|exact XF.exc|apply XG.ok|exact XG.exc|apply XH.ok|exact XH.exc|apply XI.ok|exact XI.exc|exact XJ.t|exact XJ.f|exact XJ.exc|apply XK.t|exact XK.f|exact XK.exc|exact XM.t|apply XM.f|exact XM.exc|apply XN.t|exact XN.f|apply XO.andT|exact XO.andF|apply XO.orF|exact XO.orT|apply XQ.next|exact XQ.ret|exact XQ.exc|exact XQ.cont|exact XQ.brk|apply XR.t|apply XR.f|exact XR.exc|exact XS.ok|apply XS.exc|exact XT|apply XU|apply XV.next|exact XV.ret|exact XV.exc|exact XW|exact XX)|exact XY rfl|apply XZ rfl Qa|apply XZ rfl Qb|exact (rfl : listFree _ = true)|exact X0 rfl|apply X1 rfl|exact X2 rfl|exact X3 rfl|exact (rfl : (_ : Option _) = some _)|decide)
      · show if _ then _ else _
        rw [hp, if_neg (by decide)]; exact ⟨_, rfl⟩
    | true =>
      rw [hw] at e
      cases d with
      | int p =>
        rw [plOk] at h
        by_cases h1 : ah + 2 ≤ p
        · have e1 := leI_t h1
          by_cases h2 : p ≤ n - 2
          · have e2 := leI_t h2
            refine ⟨.ok .next [some (.sh (.int n)), some (.sh dch), some (.sh (.int p)), some (.sh (.int p))], rfl, ?_, ?_⟩
            · repeat' (first|(with_reducible first|assumption|exact Qa|exact Qb|exact Qc|apply Qd|exact Qe|apply Qf|exact Qg|apply Qh|exact Qi|apply Qj|exact Qk|apply Ql|apply Qm|exact Qn|exact Qo|apply Qp|exact Qq|exact Qr|apply Qs|exact Qt|exact Qu|exact Qv|exact Qw|exact Qx|exact Qy|exact Qz|apply QA|apply QB|apply QC|apply QD|apply QE|apply QF|apply QG|apply QH|apply QI|apply QJ|apply QK|apply QL|apply QM|apply QN|apply QO|apply QP|apply QQ|apply QR|apply QS|apply QT|apply QU|apply QV|apply QW|apply QX|apply QY|apply QZ|apply Q0|apply Q1|apply Q2|apply Q3|apply Q4|apply Q5|apply Q6|apply Q7|apply Q8|apply Q9|apply Xa|apply Xb|apply Xc|apply Xd|apply Xe|apply Xf|apply Xg|apply Xh|apply Xi|exact Xj|apply Xk.ok|exact Xk.exc|apply Xl.ok|exact Xl.exc|apply Xm.ok|exact Xm.exc|apply Xn.ok|exact Xn.exc|apply Xo.ok|exact Xo.exc|apply Xp.ok|exact Xp.exc|apply Xq.ok|exact Xq.exc|apply Xr.ok|exact Xr.exc|apply Xs.ok|exact Xs.exc|apply Xu.ok|exact Xu.exc|apply Xv.ok|exact Xv.exc|apply Xw.ok|exact Xw.exc|apply Xx.ok|exact Xx.exc|apply Xy.ok|exact Xy.exc|apply Xz.ok|exact Xz.exc|apply XA.ok|exact XA.exc|apply XB.ok|exact XB.exc|apply XC.ok|exact XC.exc|apply XD.ok|exact XD.exc|apply XE.ok|exact XE.exc|apply XF.ok|exact XF.exc|apply XG.ok|exact XG.exc|apply XH.ok|exact XH.exc|apply XI.ok|exact XI.exc|exact XJ.t|exact XJ.f|exact XJ.exc|apply XK.t|exact XK.f|exact XK.exc|exact XM.t|apply XM.f|exact XM.exc|apply XN.t|exact XN.f|apply XO.andT|exact XO.andF|apply XO.orF|exact XO.orT|apply XQ.next|exact XQ.ret|exact XQ.exc|exact XQ.cont|exact XQ.brk|apply XR.t|apply XR.f|exact XR.exc|exact XS.ok|apply XS.exc|exact XT|apply XU|apply XV.next|exact XV.ret|exact XV.exc|exact XW|exact XX)|exact XY rfl|apply XZ rfl Qa|apply XZ rfl Qb|exact (rfl : listFree _ = true)|exact X0 rfl|apply X1 rfl|exact X2 rfl|exact X3 rfl|exact (rfl : (_ : Option _) = some _)|decide)
            · exact ⟨p, _, rfl, by rw [← h, decide_eq_true h1, decide_eq_true h2]; rfl, fun d hd => hc d (.tail _ hd)⟩
          · have e2 := leI_f h2
            have hp : plOk n (-2) ds = false := by rw [← h, decide_eq_false h2]; simp
            refine ⟨.exc 61 [some (.sh (.int n)), some (.sh dch), some (.sh (.int ah)), some (.sh (.int p))], rfl, ?_, ?_⟩
            · repeat' (first|(with_reducible first|assumption|exact Qa|exact Qb|exact Qc|apply Qd|exact Qe|apply Qf|exact Qg|apply Qh|exact Qi|apply Qj|exact Qk|apply Ql|apply Qm|exact Qn|exact Qo|apply Qp|exact Qq|exact Qr|apply Qs|exact Qt|exact Qu|exact Qv|exact Qw|exact Qx|exact Qy|exact Qz|apply QA|apply QB|apply QC|apply QD|apply QE|apply QF|apply QG|apply QH|apply QI|apply QJ|apply QK|apply QL|apply QM|apply QN|apply QO|apply QP|apply QQ|apply QR|apply QS|apply QT|apply QU|apply QV|apply QW|apply QX|apply QY|apply QZ|apply Q0|apply Q1|apply Q2|apply Q3|apply Q4|apply Q5|apply Q6|apply Q7|apply Q8|apply Q9|apply Xa|apply Xb|apply Xc|apply Xd|apply Xe|apply Xf|apply Xg|apply Xh|apply Xi|exact Xj|apply Xk.ok|exact Xk.exc|apply Xl.ok|exact Xl.exc|apply Xm.ok|exact Xm.exc|apply Xn.ok|exact Xn.exc|apply Xo.ok|exact Xo.exc|apply Xp.ok|exact Xp.exc|apply Xq.ok|exact Xq.exc|apply Xr.ok|exact Xr.exc|apply Xs.ok|exact Xs.exc|apply Xu.ok|exact Xu.exc|apply Xv.ok|exact Xv.exc|apply Xw.ok|exact Xw.exc|apply Xx.ok|exact Xx.exc|apply Xy.ok|exact Xy.exc|apply Xz.ok|exact Xz.exc|apply XA.ok|exact XA.exc|apply XB.ok|exact XB.exc|apply XC.ok|exact XC.exc|apply XD.ok|exact XD.exc|apply XE.ok|exact XE.exc|apply XF.ok|exact XF.exc|apply XG.ok|exact XG.exc|apply XH.ok|exact XH.exc|apply XI.ok|exact XI.exc|exact XJ.t|exact XJ.f|exact XJ.exc|apply XK.t|exact XK.f|exact XK.exc|exact XM.t|apply XM.f|exact XM.exc|apply XN.t|exact XN.f|apply XO.andT|exact XO.andF|apply XO.orF|exact XO.orT|apply XQ.next|exact XQ.ret|exact XQ.exc|exact XQ.cont|exact XQ.brk|apply XR.t|apply XR.f|exact XR.exc|exact XS.ok|apply XS.exc|exact XT|apply XU|apply XV.next|exact XV.ret|exact XV.exc|exact XW|exact XX)|exact XY rfl|apply XZ rfl Qa|apply XZ rfl Qb|exact (rfl : listFree _ = true)|exact X0 rfl|apply X1 rfl|exact X2 rfl|exact X3 rfl|exact (rfl : (_ : Option _) = some _)|decide)
            · show if _ then _ else _
              rw [hp, if_neg (by decide)]; exact ⟨_, rfl⟩
        · have e1 := leI_f h1
          have hp : plOk n (-2) ds = false := by rw [← h, decide_eq_false h1]; simp
          refine ⟨.exc 61 [some (.sh (.int n)), some (.sh dch), some (.sh (.int ah)), some (.sh (.int p))], rfl, ?_, ?_⟩
          · repeat' (first|(with_reducible first|assumption|exact Qa|exact Qb|exact Qc|apply Qd|exact Qe|apply Qf|exact Qg|apply Qh|exact Qi|apply Qj|exact Qk|apply Ql|apply Qm|exact Qn|exact Qo|apply Qp|exact Qq|exact Qr|apply Qs|exact Qt|exact Qu|exact Qv|exact Qw|exact Qx|exact Qy|exact Qz|apply QA|apply QB|apply QC|apply QD|apply QE|apply QF|apply QG|apply QH|apply QI|apply QJ|apply QK|apply QL|apply QM|apply QN|apply QO|apply QP|apply QQ|apply QR|apply QS|apply QT|apply QU|apply QV|apply QW|apply QX|apply QY|apply QZ|apply Q0|apply Q1|apply Q2|apply Q3|apply Q4|apply Q5|apply Q6|apply Q7|apply Q8|apply Q9|apply Xa|apply Xb|apply Xc|apply Xd|apply Xe|apply Xf|apply Xg|apply Xh|apply Xi|exact Xj|apply Xk.ok|exact Xk.exc|apply Xl.ok|exact Xl.exc|apply Xm.ok|exact Xm.exc|apply Xn.ok|exact Xn.exc|apply Xo.ok|exact Xo.exc|apply Xp.ok|exact Xp.exc|apply Xq.ok|exact Xq.exc|apply Xr.ok|exact Xr.exc|apply Xs.ok|exact Xs.exc|apply Xu.ok|exact Xu.exc|apply Xv.ok|exact Xv.exc|apply Xw.ok|exact Xw.exc|apply Xx.ok|exact Xx.exc|apply Xy.ok|exact Xy.exc|apply Xz.ok|exact Xz.exc|apply XA.ok|exact XA.exc|apply XB.ok|exact XB.exc|apply XC.ok|exact XC.exc|apply XD.ok|exact XD.exc|apply XE.ok|exact XE.exc|apply XF.ok|exact XF.exc|apply XG.ok|exact XG.exc|apply XH.ok|exact XH.exc|apply XI.ok|exact XI.exc|exact XJ.t|exact XJ.f|exact XJ.exc|apply XK.t|exact XK.f|exact XK.exc|exact XM.t|apply XM.f|exact XM.exc|apply XN.t|exact XN.f|apply XO.andT|exact XO.andF|apply XO.orF|exact XO.orT|apply XQ.next|exact XQ.ret|exact XQ.exc|exact XQ.cont|exact XQ.brk|apply XR.t|apply XR.f|exact XR.exc|exact XS.ok|apply XS.exc|exact XT|apply XU|apply XV.next|exact XV.ret|exact XV.exc|exact XW|exact XX)|exact XY rfl|apply XZ rfl Qa|apply XZ rfl Qb|exact (rfl : listFree _ = true)|exact X0 rfl|apply X1 rfl|exact X2 rfl|exact X3 rfl|exact (rfl : (_ : Option _) = some _)|decide)
          · show if _ then _ else _
            rw [hp, if_neg (by decide)]; exact ⟨_, rfl⟩
      | _ => cases hw
theorem F_need_places_other (K : Frag) (n : Int) (d : D) (hc : calm d = true) (h : ∀ ds, d ≠ .tup ds) : F_need_places K [.int n, d] = .exc 61 := by
  have e := isTuple_eq K d hc
  have e' : isInstI K [d, .glob (.type "tuple")] = some (.sh (.bool false)) := by
    rw [e]
    cases d <;> first | rfl | exact absurd rfl (h _)
  clear e
  unfold F_need_places f_need_places
  refine' run_of [some (.sh (.int n)), some (.sh d), none, none] rfl rfl ?_ fin_exc
  repeat' (first|(with_reducible first|assumption|exact Qa|exact Qb|exact Qc|apply Qd|exact Qe|apply Qf|exact Qg|apply Qh|exact Qi|apply Qj|exact Qk|apply Ql|apply Qm|exact Qn|exact Qo|apply Qp|exact Qq|exact Qr|apply Qs|exact Qt|exact Qu|exact Qv|exact Qw|exact Qx|exact Qy|exact Qz|apply QA|apply QB|apply QC|apply QD|apply QE|apply QF|apply QG|apply QH|apply QI|apply QJ|apply QK|apply QL|apply QM|apply QN|apply QO|apply QP|apply QQ|apply QR|apply QS|apply QT|apply QU|apply QV|apply QW|apply QX|apply QY|apply QZ|apply Q0|apply Q1|apply Q2|apply Q3|apply Q4|apply Q5|apply Q6|apply Q7|apply Q8|apply Q9|apply Xa|apply Xb|apply Xc|apply Xd|apply Xe|apply Xf|apply Xg|apply Xh|apply Xi|exact Xj|apply Xk.ok|exact Xk.exc|apply Xl.ok|exact Xl.exc|apply Xm.ok|exact Xm.exc|apply Xn.ok|exact Xn.exc|apply Xo.ok|exact Xo.exc|apply Xp.ok|exact Xp.exc|apply Xq.ok|exact Xq.exc|apply Xr.ok|exact Xr.exc|apply Xs.ok|exact Xs.exc|apply Xu.ok|exact Xu.exc|apply Xv.ok|exact Xv.exc|apply Xw.ok|exact Xw.exc|apply Xx.ok|exact Xx.exc|apply Xy.ok|exact Xy.exc|apply Xz.ok|exact Xz.exc|apply XA.ok|exact XA.exc|apply XB.ok|exact XB.exc|apply XC.ok|exact XC.exc|apply XD.ok|exact XD.exc|apply XE.ok|exact XE.exc|apply XF.ok|exact XF.exc|apply XG.ok|exact XG.exc|apply XH.ok|exact XH.exc|apply XI.ok|exact XI.exc|exact XJ.t|exact XJ.f|exact XJ.exc|apply XK.t|exact XK.f|exact XK.exc|exact XM.t|apply XM.f|exact XM.exc|apply XN.t|exact XN.f|apply XO.andT|exact XO.andF|apply XO.orF|exact XO.orT|apply XQ.next|exact XQ.ret|exact XQ.exc|exact XQ.cont|exact XQ.brk|apply XR.t|apply XR.f|exact XR.exc|exact XS.ok|apply XS.exc|exact XT|apply XU|apply XV.next|exact XV.ret|exact XV.exc|exact XW|exact XX)|exact XY rfl|apply XZ rfl Qa|apply XZ rfl Qb|exact (rfl : listFree _ = true)|exact X0 rfl|apply X1 rfl|exact X2 rfl|exact X3 rfl|exact (rfl : (_ : Option _) = some _)|decide)
theorem F_need_places_nil (K : Frag) (n : Int) : F_need_places K [.int n, .tup []] = .exc 61 := by
  have e' : isInstI K [.tup [], .glob (.type "tuple")] = some (.sh (.bool true)) := isTuple_eq K (.tup []) rfl
  have e2 : lenI [.tup []] = some (.sh (.int 0)) := lenI_tup (ds := []) (Nat.zero_le _)
  have e3 := eqI_t 0
  unfold F_need_places f_need_places
  refine' run_of [some (.sh (.int n)), some (.sh (.tup [])), none, none] rfl rfl ?_ fin_exc
  repeat' (first|(with_reducible first|assumption|exact Qa|exact Qb|exact Qc|apply Qd|exact Qe|apply Qf|exact Qg|apply Qh|exact Qi|apply Qj|exact Qk|apply Ql|apply Qm|exact Qn|exact Qo|apply Qp|exact Qq|exact Qr|apply Qs|exact Qt|exact Qu|exact Qv|exact Qw|exact Qx|exact Qy|exact Qz|apply QA|apply QB|apply QC|apply QD|apply QE|apply QF|apply QG|apply QH|apply QI|apply QJ|apply QK|apply QL|apply QM|apply QN|apply QO|apply QP|apply QQ|apply QR|apply QS|apply QT|apply QU|apply QV|apply QW|apply QX|apply QY|apply QZ|apply Q0|apply Q1|apply Q2|apply Q3|apply Q4|apply Q5|apply Q6|apply Q7|apply Q8|apply Q9|apply Xa|apply Xb|apply Xc|apply Xd|apply Xe|apply Xf|apply Xg|apply Xh|apply Xi|exact Xj|apply Xk.ok|exact Xk.exc|apply Xl.ok|exact Xl.exc|apply Xm.ok|exact Xm.exc|apply Xn.ok|exact Xn.exc|apply Xo.ok|exact Xo.exc|apply Xp.ok|exact Xp.exc|apply Xq.ok|exact Xq.exc|apply Xr.ok|exact Xr.exc|apply Xs.ok|exact Xs.exc|apply Xu.ok|exact Xu.exc|apply Xv.ok|exact Xv.exc|apply Xw.ok|exact Xw.exc|apply Xx.ok|exact Xx.exc|apply Xy.ok|exact Xy.exc|apply Xz.ok|exact Xz.exc|apply XA.ok|exact XA.exc|apply XB.ok|exact XB.exc|apply XC.ok|exact XC.exc|apply XD.ok|exact XD.exc|apply XE.ok|exact XE.exc|apply XF.ok|exact XF.exc|apply XG.ok|exact XG.exc|apply XH.ok|exact XH.exc|apply XI.ok|exact XI.exc|exact XJ.t|exact XJ.f|exact XJ.exc|apply XK.t|exact XK.f|exact XK.exc|exact XM.t|apply XM.f|exact XM.exc|apply XN.t|exact XN.f|apply XO.andT|exact XO.andF|apply XO.orF|exact XO.orT|apply XQ.next|exact XQ.ret|exact XQ.exc|exact XQ.cont|exact XQ.brk|apply XR.t|apply XR.f|exact XR.exc|exact XS.ok|apply XS.exc|exact XT|apply XU|apply XV.next|exact XV.ret|exact XV.exc|exact XW|exact XX)|exact XY rfl|apply XZ rfl Qa|apply XZ rfl Qb|exact (rfl : listFree _ = true)|exact X0 rfl|apply X1 rfl|exact X2 rfl|exact X3 rfl|exact (rfl : (_ : Option _) = some _)|decide)
theorem F_need_places_tup (K : Frag) (n : Int) (ds : List D) (hn : ds ≠ []) (hl : ds.length ≤ 1000000) (hc : ∀ d ∈ ds, calm d = true) : F_need_places K [.int n, .tup ds] = if plOk n (-2) ds then .ok (.sh .none) else .exc 61 := by
  have e' : isInstI K [.tup ds, .glob (.type "tuple")] = some (.sh (.bool true)) := isTuple_eq K (.tup ds) rfl
  have e2 := lenI_tup hl
  have e3 := eqI_f (a := (ds.length : Int)) (b := 0) (by
    have := List.length_pos_iff.mpr hn; omega)
  obtain ⟨r, h1, h2⟩ := places_loop K n (dch := .tup ds) hc
  have e4 : itemsD (.tup ds) = some ds := rfl
  have e5 : negI (.int 2) = some (.sh (.int (-2))) := rfl
  cases hp : plOk n (-2) ds with
  | true =>
    rw [hp, if_pos rfl] at h2
    obtain ⟨ρ, rfl⟩ := h2
    rw [if_pos rfl]
    unfold F_need_places f_need_places
    refine' run_of [some (.sh (.int n)), some (.sh (.tup ds)), none, none] rfl rfl ?_ fin_next
    repeat' (first|(with_reducible first|assumption|exact Qa|exact Qb|exact Qc|apply Qd|exact Qe|apply Qf|exact Qg|apply Qh|exact Qi|apply Qj|exact Qk|apply Ql|apply Qm|exact Qn|exact Qo|apply Qp|exact Qq|exact Qr|apply Qs|exact Qt|exact Qu|exact Qv|exact Qw|exact Qx|exact Qy|exact Qz|apply QA|apply QB|apply QC|apply QD|apply QE|apply QF|apply QG|apply QH|apply QI|apply QJ|apply QK|apply QL|apply QM|apply QN|apply QO|apply QP|apply QQ|apply QR|apply QS|apply QT|apply QU|apply QV|apply QW|apply QX|apply QY|apply QZ|apply Q0|apply Q1|apply Q2|apply Q3|apply Q4|apply Q5|apply Q6|apply Q7|apply Q8|apply Q9|apply Xa|apply Xb|apply Xc|apply Xd|apply Xe|apply Xf|apply Xg|apply Xh|apply Xi|exact Xj|apply Xk.ok|exact Xk.exc|apply Xl.ok|exact Xl.exc|apply Xm.ok|exact Xm.exc|apply Xn.ok|exact Xn.exc|apply Xo.ok|exact Xo.exc|apply Xp.ok|exact Xp.exc|apply Xq.ok|exact Xq.exc|apply Xr.ok|exact Xr.exc|apply Xs.ok|exact Xs.exc|apply Xu.ok|exact Xu.exc|apply Xv.ok|exact Xv.exc|apply Xw.ok|exact Xw.exc|apply Xx.ok|exact Xx.exc|apply Xy.ok|exact Xy.exc|apply Xz.ok|exact Xz.exc|apply XA.ok|exact XA.exc|apply XB.ok|exact XB.exc|apply XC.ok|exact XC.exc|apply XD.ok|exact XD.exc|apply XE.ok|exact XE.exc|apply XF.ok|exact XF.exc|apply XG.ok|exact XG.exc|apply XH.ok|exact XH.exc|apply XI.ok|exact XI.exc|exact XJ.t|exact XJ.f|exact XJ.exc|apply XK.t|exact XK.f|exact XK.exc|exact XM.t|apply XM.f|exact XM.exc|apply XN.t|exact XN.f|apply XO.andT|exact XO.andF|apply XO.orF|exact XO.orT|apply XQ.next|exact XQ.ret|exact XQ.exc|exact XQ.cont|exact XQ.brk|apply XR.t|apply XR.f|exact XR.exc|exact XS.ok|apply XS.exc|exact XT|apply XU|apply XV.next|exact XV.ret|exact XV.exc|exact XW|exact XX)|exact XY rfl|apply XZ rfl Qa|apply XZ rfl Qb|exact (rfl : listFree _ = true)|exact X0 rfl|apply X1 rfl|exact X2 rfl|exact X3 rfl|exact (rfl : (_ : Option _) = some _)|decide)
  | false =>
    rw [hp, if_neg (by decide)] at h2
    obtain ⟨ρ, rfl⟩ := h2
    rw [if_neg (by decide)]
    unfold F_need_places f_need_places
    refine' run_of [some (.sh (.int n)), some (.sh (.tup ds)), none, none] rfl rfl ?_ fin_exc
    repeat' (first|(with_reducible first|assumption|exact Qa|exact Qb|exact Qc|apply Qd|exact Qe|apply Qf|exact Qg|apply Qh|exact Qi|apply Qj|exact Qk|apply Ql|apply Qm|exact Qn|exact Qo|apply Qp|exact Qq|exact Qr|apply Qs|exact Qt|exact Qu|exact Qv|exact Qw|exact Qx|exact Qy|exact Qz|apply QA|apply QB|apply QC|apply QD|apply QE|apply QF|apply QG|apply QH|apply QI|apply QJ|apply QK|apply QL|apply QM|apply QN|apply QO|apply QP|apply QQ|apply QR|apply QS|apply QT|apply QU|apply QV|apply QW|apply QX|apply QY|apply QZ|apply Q0|apply Q1|apply Q2|apply Q3|apply Q4|apply Q5|apply Q6|apply Q7|apply Q8|apply Q9|apply Xa|apply Xb|apply Xc|apply Xd|apply Xe|apply Xf|apply Xg|apply Xh|apply Xi|exact Xj|apply Xk.ok|exact Xk.exc|apply Xl.ok|exact Xl.exc|apply Xm.ok|exact Xm.exc|apply Xn.ok|exact Xn.exc|apply Xo.ok|exact Xo.exc|apply Xp.ok|exact Xp.exc|apply Xq.ok|exact Xq.exc|apply Xr.ok|exact Xr.exc|apply Xs.ok|exact Xs.exc|apply Xu.ok|exact Xu.exc|apply Xv.ok|exact Xv.exc|apply Xw.ok|exact Xw.exc|apply Xx.ok|exact Xx.exc|apply Xy.ok|exact Xy.exc|apply Xz.ok|exact Xz.exc|apply XA.ok|exact XA.exc|apply XB.ok|exact XB.exc|apply XC.ok|exact XC.exc|apply XD.ok|exact XD.exc|apply XE.ok|exact XE.exc|apply XF.ok|exact XF.exc|apply XG.ok|exact XG.exc|apply XH.ok|exact XH.exc|apply XI.ok|exact XI.exc|exact XJ.t|exact XJ.f|exact XJ.exc|apply XK.t|exact XK.f|exact XK.exc|exact XM.t|apply XM.f|exact XM.exc|apply XN.t|exact XN.f|apply XO.andT|exact XO.andF|apply XO.orF|exact XO.orT|apply XQ.next|exact XQ.ret|exact XQ.exc|exact XQ.cont|exact XQ.brk|apply XR.t|apply XR.f|exact XR.exc|exact XS.ok|apply XS.exc|exact XT|apply XU|apply XV.next|exact XV.ret|exact XV.exc|exact XW|exact XX)|exact XY rfl|apply XZ rfl Qa|apply XZ rfl Qb|exact (rfl : listFree _ = true)|exact X0 rfl|apply X1 rfl|exact X2 rfl|exact X3 rfl|exact (rfl : (_ : Option _) = some _)|decide)
noncomputable def chOk (n : Nat) : Nat → List Nat → Bool
  | _, [] => true
  | lo, p :: r => decide (lo ≤ p) && decide (p + 2 ≤ n) && chOk n (p + 2) r
structure Change (n : Nat) (cs : List Nat) : Prop where
  ne : cs ≠ []
  ok : chOk n 0 cs = true
noncomputable def nD (cs : List Nat) : List D := cs.map fun (p : Nat) => D.int p
theorem nD_iL (cs : List Nat) : nD cs = iL (cs.map fun (p : Nat) => (p : Int)) := by unfold nD iL; rw [List.map_map]; rfl
theorem plOk_ch (n : Nat) : ∀ (cs : List Nat) (lo : Nat), plOk n ((lo : Int) - 2) (nD cs) = chOk n lo cs
  | [], _ => rfl
  | p :: r, lo => by
    show (decide _ && decide _ && plOk n p (nD r)) = _
    rw [chOk, ← plOk_ch n r (p + 2)]
    have a : decide ((lo : Int) - 2 + 2 ≤ p) = decide (lo ≤ p) := decide_eq_decide.mpr (by omega)
    have b : decide ((p : Int) ≤ n - 2) = decide (p + 2 ≤ n) := decide_eq_decide.mpr (by omega)
    rw [a, b, show (((p + 2 : Nat) : Int) - 2) = (p : Int) by omega]
theorem chOk_len {n : Nat} : ∀ {cs : List Nat} {lo : Nat}, chOk n lo cs = true → lo ≤ n → cs.length ≤ n - lo
  | [], _, _, _ => Nat.zero_le _
  | p :: r, lo, h, hl => by
    rw [chOk] at h
    simp only [Bool.and_eq_true, decide_eq_true_eq] at h
    have := chOk_len h.2 (by omega)
    simp only [List.length_cons]; omega
theorem nD_len (cs : List Nat) : (nD cs).length = cs.length := by simp [nD]
theorem nD_calm (cs : List Nat) : ∀ d ∈ nD cs, calm d = true := fun d hd => by
  obtain ⟨i, _, rfl⟩ := List.mem_map.mp hd; rfl
theorem F_need_places_ok (K : Frag) {n : Nat} {cs : List Nat} (h : Change n cs) (hn : n ≤ 12) : F_need_places K [.int n, .tup (nD cs)] = .ok (.sh .none) := by
  have := chOk_len h.ok (Nat.zero_le _)
  rw [F_need_places_tup K n (nD cs) (by intro q; exact h.ne (List.map_eq_nil_iff.mp q)) (by rw [nD_len]; omega) (nD_calm cs)]
  have e := plOk_ch n cs 0
  rw [show (((0 : Nat) : Int) - 2) = -2 by decide] at e
  rw [e, h.ok, if_pos rfl]
theorem change_loop (K : Frag) (c : Int) (n : Nat) (h3 : 3 ≤ n) (h12 : n ≤ 12) : ∃ r, (sWhile 1000 (eTest2 ltI (eOp 3) (eVal (eOp2 subI (eOp 1) (eVal (eConst (.int 1)))))) (sSeq (sIf (eTest2 gtI (eVal (eOp2 modI (eVal (eOp2 divI (eVal (eCall (F_law_mix K) (eConsB (eOp 0) (eConsB (eOp 3) eNilB)))) (eVal (eConst (.int 5))))) (eVal (eConst (.int 3))))) (eVal (eConst (.int 0)))) (sSeq (sExpr (eVal (eAppend 2 (eVar 3)))) (sSeq (sAssign 3 (eOp2 addS (eOp 3) (eVal (eConst (.int 1))))) sNil)) sNil) (sSeq (sAssign 3 (eOp2 addS (eOp 3) (eVal (eConst (.int 1))))) sNil))) [some (.sh (.int c)), some (.sh (.int n)), some (.ow true (.list [])), some (.sh (.int 0))] = r ∧ ∃ cs v, r = .ok .next [some (.sh (.int c)), some (.sh (.int n)), some (.ow true (.list (nD cs))), v] ∧ chOk n 0 cs = true := by
  refine while_ex (fun m ρ => ∃ (cs : List Nat) (p : Nat), ρ = [some (.sh (.int c)), some (.sh (.int n)), some (.ow true (.list (nD cs))), some (.sh (.int p))] ∧ m = 100 - p ∧ p ≤ n ∧ cs.length ≤ p ∧ (∀ r, chOk n p r = true → chOk n 0 (cs ++ r) = true)) (fun r => ∃ cs v, r = .ok .next [some (.sh (.int c)), some (.sh (.int n)), some (.ow true (.list (nD cs))), v] ∧ chOk n 0 cs = true) ?_ 1000 100 _ ⟨[], 0, rfl, rfl, Nat.zero_le _, Nat.zero_le _, fun r h => h⟩ (by decide)
  rintro m ρ ⟨cs, p, rfl, rfl, hp, hl, hc⟩
  have e0 : (subI (.int n) (.int 1)) = some (.sh (.int ((n : Int) - 1))) := rfl
  by_cases hpn : (p : Int) < (n : Int) - 1
  · right
    have e1 := ltI_t hpn
    have e2 := F_law_mix_ok K c p (small_of (by omega))
    have e3 : modI (.int ((mix c p).fdiv 5)) (.int 3) = some (.sh (.int (((mix c p).fdiv 5).fmod 3))) := Q5 (by decide)
    generalize ((mix c p).fdiv 5).fmod 3 = z at e3
    have hl' : (nD cs).length ≤ 1000000 := by rw [nD_len]; omega
    by_cases hz : 0 < z
    · have e4 := gtI_t hz
      refine ⟨[some (.sh (.int c)), some (.sh (.int n)), some (.ow true (.list (nD cs))), some (.sh (.int p))], .ok .next [some (.sh (.int c)), some (.sh (.int n)), some (.ow true (.list (nD cs ++ [.int p]))), some (.sh (.int ((p : Int) + 1 + 1)))], ?_, ?_, 100 - (p + 2), by omega, cs ++ [p], p + 2, ?_, rfl, by omega, by simp; omega, ?_⟩
      · repeat' (first|(with_reducible first|assumption|exact Qa|exact Qb|exact Qc|apply Qd|exact Qe|apply Qf|exact Qg|apply Qh|exact Qi|apply Qj|exact Qk|apply Ql|apply Qm|exact Qn|exact Qo|apply Qp|exact Qq|exact Qr|apply Qs|exact Qt|exact Qu|exact Qv|exact Qw|exact Qx|exact Qy|exact Qz|apply QA|apply QB|apply QC|apply QD|apply QE|apply QF|apply QG|apply QH|apply QI|apply QJ|apply QK|apply QL|apply QM|apply QN|apply QO|apply QP|apply QQ|apply QR|apply QS|apply QT|apply QU|apply QV|apply QW|apply QX|apply QY|apply QZ|apply Q0|apply Q1|apply Q2|apply Q3|apply Q4|apply Q5|apply Q6|apply Q7|apply Q8|apply Q9|apply Xa|apply Xb|apply Xc|apply Xd|apply Xe|apply Xf|apply Xg|apply Xh|apply Xi|exact Xj|apply Xk.ok|exact Xk.exc|apply Xl.ok|exact Xl.exc|apply Xm.ok|exact Xm.exc|apply Xn.ok|exact Xn.exc|apply Xo.ok|exact Xo.exc|apply Xp.ok|exact Xp.exc|apply Xq.ok|exact Xq.exc|apply Xr.ok|exact Xr.exc|apply Xs.ok|exact Xs.exc|apply Xu.ok|exact Xu.exc|apply Xv.ok|exact Xv.exc|apply Xw.ok|exact Xw.exc|apply Xx.ok|exact Xx.exc|apply Xy.ok|exact Xy.exc|apply Xz.ok|exact Xz.exc|apply XA.ok|exact XA.exc|apply XB.ok|exact XB.exc|apply XC.ok|exact XC.exc|apply XD.ok|exact XD.exc|apply XE.ok|exact XE.exc|apply XF.ok|exact XF.exc|apply XG.ok|exact XG.exc|apply XH.ok|exact XH.exc|apply XI.ok|exact XI.exc|exact XJ.t|exact XJ.f|exact XJ.exc|apply XK.t|exact XK.f|exact XK.exc|exact XM.t|apply XM.f|exact XM.exc|apply XN.t|exact XN.f|apply XO.andT|exact XO.andF|apply XO.orF|exact XO.orT|apply XQ.next|exact XQ.ret|exact XQ.exc|exact XQ.cont|exact XQ.brk|apply XR.t|apply XR.f|exact XR.exc|exact XS.ok|apply XS.exc|exact XT|apply XU|apply XV.next|exact XV.ret|exact XV.exc|exact XW|exact XX)|exact XY rfl|apply XZ rfl Qa|apply XZ rfl Qb|exact (rfl : listFree _ = true)|exact X0 rfl|apply X1 rfl|exact X2 rfl|exact X3 rfl|exact (rfl : (_ : Option _) = some _)|decide)
      · repeat' (first|(with_reducible first|assumption|exact Qa|exact Qb|exact Qc|apply Qd|exact Qe|apply Qf|exact Qg|apply Qh|exact Qi|apply Qj|exact Qk|apply Ql|apply Qm|exact Qn|exact Qo|apply Qp|exact Qq|exact Qr|apply Qs|exact Qt|exact Qu|exact Qv|exact Qw|exact Qx|exact Qy|exact Qz|apply QA|apply QB|apply QC|apply QD|apply QE|apply QF|apply QG|apply QH|apply QI|apply QJ|apply QK|apply QL|apply QM|apply QN|apply QO|apply QP|apply QQ|apply QR|apply QS|apply QT|apply QU|apply QV|apply QW|apply QX|apply QY|apply QZ|apply Q0|apply Q1|apply Q2|apply Q3|apply Q4|apply Q5|apply Q6|apply Q7|apply Q8|apply Q9|apply Xa|apply Xb|apply Xc|apply Xd|apply Xe|apply Xf|apply Xg|apply Xh|apply Xi|exact Xj|apply Xk.ok|exact Xk.exc|apply Xl.ok|exact Xl.exc|apply Xm.ok|exact Xm.exc|apply Xn.ok|exact Xn.exc|apply Xo.ok|exact Xo.exc|apply Xp.ok|exact Xp.exc|apply Xq.ok|exact Xq.exc|apply Xr.ok|exact Xr.exc|apply Xs.ok|exact Xs.exc|apply Xu.ok|exact Xu.exc|apply Xv.ok|exact Xv.exc|apply Xw.ok|exact Xw.exc|apply Xx.ok|exact Xx.exc|apply Xy.ok|exact Xy.exc|apply Xz.ok|exact Xz.exc|apply XA.ok|exact XA.exc|apply XB.ok|exact XB.exc|apply XC.ok|exact XC.exc|apply XD.ok|exact XD.exc|apply XE.ok|exact XE.exc|apply XF.ok|exact XF.exc|apply XG.ok|exact XG.exc|apply XH.ok|exact XH.exc|apply XI.ok|exact XI.exc|exact XJ.t|exact XJ.f|exact XJ.exc|apply XK.t|exact XK.f|exact XK.exc|exact XM.t|apply XM.f|exact XM.exc|apply XN.t|exact XN.f|apply XO.andT|exact XO.andF|apply XO.orF|exact XO.orT|apply XQ.next|exact XQ.ret|exact XQ.exc|exact XQ.cont|exact XQ.brk|apply XR.t|apply XR.f|exact XR.exc|exact XS.ok|apply XS.exc|exact XT|apply XU|apply XV.next|exact XV.ret|exact XV.exc|exact XW|exact XX)|exact XY rfl|apply XZ rfl Qa|apply XZ rfl Qb|exact (rfl : listFree _ = true)|exact X0 rfl|apply X1 rfl|exact X2 rfl|exact X3 rfl|exact (rfl : (_ : Option _) = some _)|decide)
      · rw [show ((p : Int) + 1 + 1) = ((p + 2 : Nat) : Int) by omega]
        unfold nD; simp
      · intro r hr
        rw [List.append_assoc]
        refine hc _ ?_
        show (decide _ && decide _ && chOk n (p + 2) r) = true
        rw [hr, decide_eq_true (Nat.le_refl _), decide_eq_true (by omega)]; rfl
    · have e4 := gtI_f hz
      refine ⟨[some (.sh (.int c)), some (.sh (.int n)), some (.ow true (.list (nD cs))), some (.sh (.int p))], .ok .next [some (.sh (.int c)), some (.sh (.int n)), some (.ow true (.list (nD cs))), some (.sh (.int ((p : Int) + 1)))], ?_, ?_, 100 - (p + 1), by omega, cs, p + 1, ?_, rfl, by omega, by omega, ?_⟩
      · repeat' (first|(with_reducible first|assumption|exact Qa|exact Qb|exact Qc|apply Qd|exact Qe|apply Qf|exact Qg|apply Qh|exact Qi|apply Qj|exact Qk|apply Ql|apply Qm|exact Qn|exact Qo|apply Qp|exact Qq|exact Qr|apply Qs|exact Qt|exact Qu|exact Qv|exact Qw|exact Qx|exact Qy|exact Qz|apply QA|apply QB|apply QC|apply QD|apply QE|apply QF|apply QG|apply QH|apply QI|apply QJ|apply QK|apply QL|apply QM|apply QN|apply QO|apply QP|apply QQ|apply QR|apply QS|apply QT|apply QU|apply QV|apply QW|apply QX|apply QY|apply QZ|apply Q0|apply Q1|apply Q2|apply Q3|apply Q4|apply Q5|apply Q6|apply Q7|apply Q8|apply Q9|apply Xa|apply Xb|apply Xc|apply Xd|apply Xe|apply Xf|apply Xg|apply Xh|apply Xi|exact Xj|apply Xk.ok|exact Xk.exc|apply Xl.ok|exact Xl.exc|apply Xm.ok|exact Xm.exc|apply Xn.ok|exact Xn.exc|apply Xo.ok|exact Xo.exc|apply Xp.ok|exact Xp.exc|apply Xq.ok|exact Xq.exc|apply Xr.ok|exact Xr.exc|apply Xs.ok|exact Xs.exc|apply Xu.ok|exact Xu.exc|apply Xv.ok|exact Xv.exc|apply Xw.ok|exact Xw.exc|apply Xx.ok|exact Xx.exc|apply Xy.ok|exact Xy.exc|apply Xz.ok|exact Xz.exc|apply XA.ok|exact XA.exc|apply XB.ok|exact XB.exc|apply XC.ok|exact XC.exc|apply XD.ok|exact XD.exc|apply XE.ok|exact XE.exc|apply XF.ok|exact XF.exc|apply XG.ok|exact XG.exc|apply XH.ok|exact XH.exc|apply XI.ok|exact XI.exc|exact XJ.t|exact XJ.f|exact XJ.exc|apply XK.t|exact XK.f|exact XK.exc|exact XM.t|apply XM.f|exact XM.exc|apply XN.t|exact XN.f|apply XO.andT|exact XO.andF|apply XO.orF|exact XO.orT|apply XQ.next|exact XQ.ret|exact XQ.exc|exact XQ.cont|exact XQ.brk|apply XR.t|apply XR.f|exact XR.exc|exact XS.ok|apply XS.exc|exact XT|apply XU|apply XV.next|exact XV.ret|exact XV.exc|exact XW|exact XX)|exact XY rfl|apply XZ rfl Qa|apply XZ rfl Qb|exact (rfl : listFree _ = true)|exact X0 rfl|apply X1 rfl|exact X2 rfl|exact X3 rfl|exact (rfl : (_ : Option _) = some _)|decide)
      · repeat' (first|(with_reducible first|assumption|exact Qa|exact Qb|exact Qc|apply Qd|exact Qe|apply Qf|exact Qg|apply Qh|exact Qi|apply Qj|exact Qk|apply Ql|apply Qm|exact Qn|exact Qo|apply Qp|exact Qq|exact Qr|apply Qs|exact Qt|exact Qu|exact Qv|exact Qw|exact Qx|exact Qy|exact Qz|apply QA|apply QB|apply QC|apply QD|apply QE|apply QF|apply QG|apply QH|apply QI|apply QJ|apply QK|apply QL|apply QM|apply QN|apply QO|apply QP|apply QQ|apply QR|apply QS|apply QT|apply QU|apply QV|apply QW|apply QX|apply QY|apply QZ|apply Q0|apply Q1|apply Q2|apply Q3|apply Q4|apply Q5|apply Q6|apply Q7|apply Q8|apply Q9|apply Xa|apply Xb|apply Xc|apply Xd|apply Xe|apply Xf|apply Xg|apply Xh|apply Xi|exact Xj|apply Xk.ok|exact Xk.exc|apply Xl.ok|exact Xl.exc|apply Xm.ok|exact Xm.exc|apply Xn.ok|exact Xn.exc|apply Xo.ok|exact Xo.exc|apply Xp.ok|exact Xp.exc|apply Xq.ok|exact Xq.exc|apply Xr.ok|exact Xr.exc|apply Xs.ok|exact Xs.exc|apply Xu.ok|exact Xu.exc|apply Xv.ok|exact Xv.exc|apply Xw.ok|exact Xw.exc|apply Xx.ok|exact Xx.exc|apply Xy.ok|exact Xy.exc|apply Xz.ok|exact Xz.exc|apply XA.ok|exact XA.exc|apply XB.ok|exact XB.exc|apply XC.ok|exact XC.exc|apply XD.ok|exact XD.exc|apply XE.ok|exact XE.exc|apply XF.ok|exact XF.exc|apply XG.ok|exact XG.exc|apply XH.ok|exact XH.exc|apply XI.ok|exact XI.exc|exact XJ.t|exact XJ.f|exact XJ.exc|apply XK.t|exact XK.f|exact XK.exc|exact XM.t|apply XM.f|exact XM.exc|apply XN.t|exact XN.f|apply XO.andT|exact XO.andF|apply XO.orF|exact XO.orT|apply XQ.next|exact XQ.ret|exact XQ.exc|exact XQ.cont|exact XQ.brk|apply XR.t|apply XR.f|exact XR.exc|exact XS.ok|apply XS.exc|exact XT|apply XU|apply XV.next|exact XV.ret|exact XV.exc|exact XW|exact XX)|exact XY rfl|apply XZ rfl Qa|apply XZ rfl Qb|exact (rfl : listFree _ = true)|exact X0 rfl|apply X1 rfl|exact X2 rfl|exact X3 rfl|exact (rfl : (_ : Option _) = some _)|decide)
      · rw [show ((p : Int) + 1) = ((p + 1 : Nat) : Int) by omega]
      · intro r hr
        refine hc r ?_
        cases r with
        | nil => rfl
        | cons q r =>
          rw [chOk] at hr ⊢
          simp only [Bool.and_eq_true, decide_eq_true_eq] at hr ⊢
          exact ⟨⟨by omega, hr.1.2⟩, hr.2⟩
  · left
    have e1 := ltI_f hpn
    refine ⟨[some (.sh (.int c)), some (.sh (.int n)), some (.ow true (.list (nD cs))), some (.sh (.int p))], ?_, cs, _, rfl, ?_⟩
    · repeat' (first|(with_reducible first|assumption|exact Qa|exact Qb|exact Qc|apply Qd|exact Qe|apply Qf|exact Qg|apply Qh|exact Qi|apply Qj|exact Qk|apply Ql|apply Qm|exact Qn|exact Qo|apply Qp|exact Qq|exact Qr|apply Qs|exact Qt|exact Qu|exact Qv|exact Qw|exact Qx|exact Qy|exact Qz|apply QA|apply QB|apply QC|apply QD|apply QE|apply QF|apply QG|apply QH|apply QI|apply QJ|apply QK|apply QL|apply QM|apply QN|apply QO|apply QP|apply QQ|apply QR|apply QS|apply QT|apply QU|apply QV|apply QW|apply QX|apply QY|apply QZ|apply Q0|apply Q1|apply Q2|apply Q3|apply Q4|apply Q5|apply Q6|apply Q7|apply Q8|apply Q9|apply Xa|apply Xb|apply Xc|apply Xd|apply Xe|apply Xf|apply Xg|apply Xh|apply Xi|exact Xj|apply Xk.ok|exact Xk.exc|apply Xl.ok|exact Xl.exc|apply Xm.ok|exact Xm.exc|apply Xn.ok|exact Xn.exc|apply Xo.ok|exact Xo.exc|apply Xp.ok|exact Xp.exc|apply Xq.ok|exact Xq.exc|apply Xr.ok|exact Xr.exc|apply Xs.ok|exact Xs.exc|apply Xu.ok|exact Xu.exc|apply Xv.ok|exact Xv.exc|apply Xw.ok|exact Xw.exc|apply Xx.ok|exact Xx.exc|apply Xy.ok|exact Xy.exc|apply Xz.ok|exact Xz.exc|apply XA.ok|exact XA.exc|apply XB.ok|exact XB.exc|apply XC.ok|exact XC.exc|apply XD.ok|exact XD.exc|apply XE.ok|exact XE.exc|apply XF.ok|exact XF.exc|apply XG.ok|exact XG.exc|apply XH.ok|exact XH.exc|apply XI.ok|exact XI.exc|exact XJ.t|exact XJ.f|exact XJ.exc|apply XK.t|exact XK.f|exact XK.exc|exact XM.t|apply XM.f|exact XM.exc|apply XN.t|exact XN.f|apply XO.andT|exact XO.andF|apply XO.orF|exact XO.orT|apply XQ.next|exact XQ.ret|exact XQ.exc|exact XQ.cont|exact XQ.brk|apply XR.t|apply XR.f|exact XR.exc|exact XS.ok|apply XS.exc|exact XT|apply XU|apply XV.next|exact XV.ret|exact XV.exc|exact XW|exact XX)|exact XY rfl|apply XZ rfl Qa|apply XZ rfl Qb|exact (rfl : listFree _ = true)|exact X0 rfl|apply X1 rfl|exact X2 rfl|exact X3 rfl|exact (rfl : (_ : Option _) = some _)|decide)
    · have := hc [] rfl
      rwa [List.append_nil] at this
theorem eq_nil_nD (cs : List Nat) : eqI (.list (nD cs)) (.list []) = some (.sh (.bool (decide (cs = [])))) := by
  have := eqI_list (cs.map fun (p : Nat) => (p : Int)) []
  rw [← nD_iL] at this
  rw [show (D.list (iL [])) = .list [] from rfl] at this
  rw [this]
  congr 3
  unfold eqB
  exact decide_eq_decide.mpr List.map_eq_nil_iff
theorem F_law_change_ok (K : Frag) (c : Int) (n : Nat) (h3 : 3 ≤ n) (h12 : n ≤ 12) : ∃ cs, F_law_change K [.int c, .int n] = .ok (.sh (.tup (nD cs))) ∧ Change n cs := by
  obtain ⟨r, h1, cs, v, rfl, hc⟩ := change_loop K c n h3 h12
  have e1 := eq_nil_nD cs
  have hl := chOk_len hc (Nat.zero_le _)
  by_cases hz : cs = []
  · subst hz
    rw [decide_eq_true rfl] at e1
    have e2 := F_law_mix_ok K c 20 (small_of (by decide))
    obtain ⟨p, hp, hpn⟩ := fmod_nat (mix c 20) (n := n - 1) (by omega)
    have e0 : (subI (.int n) (.int 1)) = some (.sh (.int ((n : Int) - 1))) := rfl
    have e3 : modI (.int (mix c 20)) (.int ((n : Int) - 1)) = some (.sh (.int p)) := by rw [Q5 (by omega), show ((n : Int) - 1) = ((n - 1 : Nat) : Int) by omega, hp]
    refine ⟨[p], ?_, by simp, ?_⟩
    · have e4 : tupleI [.list [.int p]] = some (.sh (.tup (nD [p]))) := tuple_list (ds := [.int p]) (by simp)
      unfold F_law_change f_law_change
      refine' run_of [some (.sh (.int c)), some (.sh (.int n)), none, none] rfl rfl ?_ fin_ret
      repeat' (first|(with_reducible first|assumption|exact Qa|exact Qb|exact Qc|apply Qd|exact Qe|apply Qf|exact Qg|apply Qh|exact Qi|apply Qj|exact Qk|apply Ql|apply Qm|exact Qn|exact Qo|apply Qp|exact Qq|exact Qr|apply Qs|exact Qt|exact Qu|exact Qv|exact Qw|exact Qx|exact Qy|exact Qz|apply QA|apply QB|apply QC|apply QD|apply QE|apply QF|apply QG|apply QH|apply QI|apply QJ|apply QK|apply QL|apply QM|apply QN|apply QO|apply QP|apply QQ|apply QR|apply QS|apply QT|apply QU|apply QV|apply QW|apply QX|apply QY|apply QZ|apply Q0|apply Q1|apply Q2|apply Q3|apply Q4|apply Q5|apply Q6|apply Q7|apply Q8|apply Q9|apply Xa|apply Xb|apply Xc|apply Xd|apply Xe|apply Xf|apply Xg|apply Xh|apply Xi|exact Xj|apply Xk.ok|exact Xk.exc|apply Xl.ok|exact Xl.exc|apply Xm.ok|exact Xm.exc|apply Xn.ok|exact Xn.exc|apply Xo.ok|exact Xo.exc|apply Xp.ok|exact Xp.exc|apply Xq.ok|exact Xq.exc|apply Xr.ok|exact Xr.exc|apply Xs.ok|exact Xs.exc|apply Xu.ok|exact Xu.exc|apply Xv.ok|exact Xv.exc|apply Xw.ok|exact Xw.exc|apply Xx.ok|exact Xx.exc|apply Xy.ok|exact Xy.exc|apply Xz.ok|exact Xz.exc|apply XA.ok|exact XA.exc|apply XB.ok|exact XB.exc|apply XC.ok|exact XC.exc|apply XD.ok|exact XD.exc|apply XE.ok|exact XE.exc|apply XF.ok|exact XF.exc|apply XG.ok|exact XG.exc|apply XH.ok|exact XH.exc|apply XI.ok|exact XI.exc|exact XJ.t|exact XJ.f|exact XJ.exc|apply XK.t|exact XK.f|exact XK.exc|exact XM.t|apply XM.f|exact XM.exc|apply XN.t|exact XN.f|apply XO.andT|exact XO.andF|apply XO.orF|exact XO.orT|apply XQ.next|exact XQ.ret|exact XQ.exc|exact XQ.cont|exact XQ.brk|apply XR.t|apply XR.f|exact XR.exc|exact XS.ok|apply XS.exc|exact XT|apply XU|apply XV.next|exact XV.ret|exact XV.exc|exact XW|exact XX)|exact XY rfl|apply XZ rfl Qa|apply XZ rfl Qb|exact (rfl : listFree _ = true)|exact X0 rfl|apply X1 rfl|exact X2 rfl|exact X3 rfl|exact (rfl : (_ : Option _) = some _)|decide)
    · show (decide _ && decide _ && true) = true
      rw [decide_eq_true (Nat.zero_le _), decide_eq_true (by omega)]; rfl
  · rw [decide_eq_false hz] at e1
    refine ⟨cs, ?_, hz, hc⟩
    have e4 := tuple_list (ds := nD cs) (by rw [nD_len]; omega)
    unfold F_law_change f_law_change
    refine' run_of [some (.sh (.int c)), some (.sh (.int n)), none, none] rfl rfl ?_ fin_ret
    repeat' (first|(with_reducible first|assumption|exact Qa|exact Qb|exact Qc|apply Qd|exact Qe|apply Qf|exact Qg|apply Qh|exact Qi|apply Qj|exact Qk|apply Ql|apply Qm|exact Qn|exact Qo|apply Qp|exact Qq|exact Qr|apply Qs|exact Qt|exact Qu|exact Qv|exact Qw|exact Qx|exact Qy|exact Qz|apply QA|apply QB|apply QC|apply QD|apply QE|apply QF|apply QG|apply QH|apply QI|apply QJ|apply QK|apply QL|apply QM|apply QN|apply QO|apply QP|apply QQ|apply QR|apply QS|apply QT|apply QU|apply QV|apply QW|apply QX|apply QY|apply QZ|apply Q0|apply Q1|apply Q2|apply Q3|apply Q4|apply Q5|apply Q6|apply Q7|apply Q8|apply Q9|apply Xa|apply Xb|apply Xc|apply Xd|apply Xe|apply Xf|apply Xg|apply Xh|apply Xi|exact Xj|apply Xk.ok|exact Xk.exc|apply Xl.ok|exact Xl.exc|apply Xm.ok|exact Xm.exc|apply Xn.ok|exact Xn.exc|apply Xo.ok|exact Xo.exc|apply Xp.ok|exact Xp.exc|apply Xq.ok|exact Xq.exc|apply Xr.ok|exact Xr.exc|apply Xs.ok|exact Xs.exc|apply Xu.ok|exact Xu.exc|apply Xv.ok|exact Xv.exc|apply Xw.ok|exact Xw.exc|apply Xx.ok|exact Xx.exc|apply Xy.ok|exact Xy.exc|apply Xz.ok|exact Xz.exc|apply XA.ok|exact XA.exc|apply XB.ok|exact XB.exc|apply XC.ok|exact XC.exc|apply XD.ok|exact XD.exc|apply XE.ok|exact XE.exc|apply XF.ok|exact XF.exc|apply XG.ok|exact XG.exc|apply XH.ok|exact XH.exc|apply XI.ok|exact XI.exc|exact XJ.t|exact XJ.f|exact XJ.exc|apply XK.t|exact XK.f|exact XK.exc|exact XM.t|apply XM.f|exact XM.exc|apply XN.t|exact XN.f|apply XO.andT|exact XO.andF|apply XO.orF|exact XO.orT|apply XQ.next|exact XQ.ret|exact XQ.exc|exact XQ.cont|exact XQ.brk|apply XR.t|apply XR.f|exact XR.exc|exact XS.ok|apply XS.exc|exact XT|apply XU|apply XV.next|exact XV.ret|exact XV.exc|exact XW|exact XX)|exact XY rfl|apply XZ rfl Qa|apply XZ rfl Qb|exact (rfl : listFree _ = true)|exact X0 rfl|apply X1 rfl|exact X2 rfl|exact X3 rfl|exact (rfl : (_ : Option _) = some _)|decide)
theorem F_need_change_ok (K : Frag) {n : Nat} {d : D} (h3 : 3 ≤ n) (h12 : n ≤ 12) (h : F_need_places K [.int n, d] = .ok (.sh .none)) : F_need_change K [.int n, d] = .ok (.sh .none) := by
  have e := F_need_bells_ok K n (by omega) (by omega)
  unfold F_need_change f_need_change
  refine' run_of [some (.sh (.int n)), some (.sh d)] rfl rfl ?_ fin_next
  repeat' (first|(with_reducible first|assumption|exact Qa|exact Qb|exact Qc|apply Qd|exact Qe|apply Qf|exact Qg|apply Qh|exact Qi|apply Qj|exact Qk|apply Ql|apply Qm|exact Qn|exact Qo|apply Qp|exact Qq|exact Qr|apply Qs|exact Qt|exact Qu|exact Qv|exact Qw|exact Qx|exact Qy|exact Qz|apply QA|apply QB|apply QC|apply QD|apply QE|apply QF|apply QG|apply QH|apply QI|apply QJ|apply QK|apply QL|apply QM|apply QN|apply QO|apply QP|apply QQ|apply QR|apply QS|apply QT|apply QU|apply QV|apply QW|apply QX|apply QY|apply QZ|apply Q0|apply Q1|apply Q2|apply Q3|apply Q4|apply Q5|apply Q6|apply Q7|apply Q8|apply Q9|apply Xa|apply Xb|apply Xc|apply Xd|apply Xe|apply Xf|apply Xg|apply Xh|apply Xi|exact Xj|apply Xk.ok|exact Xk.exc|apply Xl.ok|exact Xl.exc|apply Xm.ok|exact Xm.exc|apply Xn.ok|exact Xn.exc|apply Xo.ok|exact Xo.exc|apply Xp.ok|exact Xp.exc|apply Xq.ok|exact Xq.exc|apply Xr.ok|exact Xr.exc|apply Xs.ok|exact Xs.exc|apply Xu.ok|exact Xu.exc|apply Xv.ok|exact Xv.exc|apply Xw.ok|exact Xw.exc|apply Xx.ok|exact Xx.exc|apply Xy.ok|exact Xy.exc|apply Xz.ok|exact Xz.exc|apply XA.ok|exact XA.exc|apply XB.ok|exact XB.exc|apply XC.ok|exact XC.exc|apply XD.ok|exact XD.exc|apply XE.ok|exact XE.exc|apply XF.ok|exact XF.exc|apply XG.ok|exact XG.exc|apply XH.ok|exact XH.exc|apply XI.ok|exact XI.exc|exact XJ.t|exact XJ.f|exact XJ.exc|apply XK.t|exact XK.f|exact XK.exc|exact XM.t|apply XM.f|exact XM.exc|apply XN.t|exact XN.f|apply XO.andT|exact XO.andF|apply XO.orF|exact XO.orT|apply XQ.next|exact XQ.ret|exact XQ.exc|exact XQ.cont|exact XQ.brk|apply XR.t|apply XR.f|exact XR.exc|exact XS.ok|apply XS.exc|exact XT|apply XU|apply XV.next|exact XV.ret|exact XV.exc|exact XW|exact XX)|exact XY rfl|apply XZ rfl Qa|apply XZ rfl Qb|exact (rfl : listFree _ = true)|exact X0 rfl|apply X1 rfl|exact X2 rfl|exact X3 rfl|exact (rfl : (_ : Option _) = some _)|decide)
theorem F_need_change_bad (K : Frag) {n : Nat} {d : D} (h3 : 3 ≤ n) (h12 : n ≤ 12) (h : F_need_places K [.int n, d] = .exc 61) : F_need_change K [.int n, d] = .exc 61 := by
  have e := F_need_bells_ok K n (by omega) (by omega)
  unfold F_need_change f_need_change
  refine' run_of [some (.sh (.int n)), some (.sh d)] rfl rfl ?_ fin_exc
  repeat' (first|(with_reducible first|assumption|exact Qa|exact Qb|exact Qc|apply Qd|exact Qe|apply Qf|exact Qg|apply Qh|exact Qi|apply Qj|exact Qk|apply Ql|apply Qm|exact Qn|exact Qo|apply Qp|exact Qq|exact Qr|apply Qs|exact Qt|exact Qu|exact Qv|exact Qw|exact Qx|exact Qy|exact Qz|apply QA|apply QB|apply QC|apply QD|apply QE|apply QF|apply QG|apply QH|apply QI|apply QJ|apply QK|apply QL|apply QM|apply QN|apply QO|apply QP|apply QQ|apply QR|apply QS|apply QT|apply QU|apply QV|apply QW|apply QX|apply QY|apply QZ|apply Q0|apply Q1|apply Q2|apply Q3|apply Q4|apply Q5|apply Q6|apply Q7|apply Q8|apply Q9|apply Xa|apply Xb|apply Xc|apply Xd|apply Xe|apply Xf|apply Xg|apply Xh|apply Xi|exact Xj|apply Xk.ok|exact Xk.exc|apply Xl.ok|exact Xl.exc|apply Xm.ok|exact Xm.exc|apply Xn.ok|exact Xn.exc|apply Xo.ok|exact Xo.exc|apply Xp.ok|exact Xp.exc|apply Xq.ok|exact Xq.exc|apply Xr.ok|exact Xr.exc|apply Xs.ok|exact Xs.exc|apply Xu.ok|exact Xu.exc|apply Xv.ok|exact Xv.exc|apply Xw.ok|exact Xw.exc|apply Xx.ok|exact Xx.exc|apply Xy.ok|exact Xy.exc|apply Xz.ok|exact Xz.exc|apply XA.ok|exact XA.exc|apply XB.ok|exact XB.exc|apply XC.ok|exact XC.exc|apply XD.ok|exact XD.exc|apply XE.ok|exact XE.exc|apply XF.ok|exact XF.exc|apply XG.ok|exact XG.exc|apply XH.ok|exact XH.exc|apply XI.ok|exact XI.exc|exact XJ.t|exact XJ.f|exact XJ.exc|apply XK.t|exact XK.f|exact XK.exc|exact XM.t|apply XM.f|exact XM.exc|apply XN.t|exact XN.f|apply XO.andT|exact XO.andF|apply XO.orF|exact XO.orT|apply XQ.next|exact XQ.ret|exact XQ.exc|exact XQ.cont|exact XQ.brk|apply XR.t|apply XR.f|exact XR.exc|exact XS.ok|apply XS.exc|exact XT|apply XU|apply XV.next|exact XV.ret|exact XV.exc|exact XW|exact XX)|exact XY rfl|apply XZ rfl Qa|apply XZ rfl Qb|exact (rfl : listFree _ = true)|exact X0 rfl|apply X1 rfl|exact X2 rfl|exact X3 rfl|exact (rfl : (_ : Option _) = some _)|decide)
theorem F_need_change_bells (K : Frag) {d e : D} (h : F_need_bells K [e] = .exc 37) : F_need_change K [e, d] = .exc 37 := by
  unfold F_need_change f_need_change
  refine' run_of [some (.sh e), some (.sh d)] rfl rfl ?_ fin_exc
  repeat' (first|(with_reducible first|assumption|exact Qa|exact Qb|exact Qc|apply Qd|exact Qe|apply Qf|exact Qg|apply Qh|exact Qi|apply Qj|exact Qk|apply Ql|apply Qm|exact Qn|exact Qo|apply Qp|exact Qq|exact Qr|apply Qs|exact Qt|exact Qu|exact Qv|exact Qw|exact Qx|exact Qy|exact Qz|apply QA|apply QB|apply QC|apply QD|apply QE|apply QF|apply QG|apply QH|apply QI|apply QJ|apply QK|apply QL|apply QM|apply QN|apply QO|apply QP|apply QQ|apply QR|apply QS|apply QT|apply QU|apply QV|apply QW|apply QX|apply QY|apply QZ|apply Q0|apply Q1|apply Q2|apply Q3|apply Q4|apply Q5|apply Q6|apply Q7|apply Q8|apply Q9|apply Xa|apply Xb|apply Xc|apply Xd|apply Xe|apply Xf|apply Xg|apply Xh|apply Xi|exact Xj|apply Xk.ok|exact Xk.exc|apply Xl.ok|exact Xl.exc|apply Xm.ok|exact Xm.exc|apply Xn.ok|exact Xn.exc|apply Xo.ok|exact Xo.exc|apply Xp.ok|exact Xp.exc|apply Xq.ok|exact Xq.exc|apply Xr.ok|exact Xr.exc|apply Xs.ok|exact Xs.exc|apply Xu.ok|exact Xu.exc|apply Xv.ok|exact Xv.exc|apply Xw.ok|exact Xw.exc|apply Xx.ok|exact Xx.exc|apply Xy.ok|exact Xy.exc|apply Xz.ok|exact Xz.exc|apply XA.ok|exact XA.exc|apply XB.ok|exact XB.exc|apply XC.ok|exact XC.exc|apply XD.ok|exact XD.exc|apply XE.ok|exact XE.exc|apply XF.ok|exact XF.exc|apply XG.ok|exact XG.exc|apply XH.ok|exact XH.exc|apply XI.ok|exact XI.exc|exact XJ.t|exact XJ.f|exact XJ.exc|apply XK.t|exact XK.f|exact XK.exc|exact XM.t|apply XM.f|exact XM.exc|apply XN.t|exact XN.f|apply XO.andT|exact XO.andF|apply XO.orF|exact XO.orT|apply XQ.next|exact XQ.ret|exact XQ.exc|exact XQ.cont|exact XQ.brk|apply XR.t|apply XR.f|exact XR.exc|exact XS.ok|apply XS.exc|exact XT|apply XU|apply XV.next|exact XV.ret|exact XV.exc|exact XW|exact XX)|exact XY rfl|apply XZ rfl Qa|apply XZ rfl Qb|exact (rfl : listFree _ = true)|exact X0 rfl|apply X1 rfl|exact X2 rfl|exact X3 rfl|exact (rfl : (_ : Option _) = some _)|decide)
structure ExcI (K : Frag) (C : Addr) (i : Nat) : Prop where
  e1 : isInstI K [.exc C, .glob (.ref 37)] = some (.sh (.bool (i == 0)))
  e2 : isInstI K [.exc C, .glob (.ref 49)] = some (.sh (.bool (i == 1)))
  e3 : isInstI K [.exc C, .glob (.ref 61)] = some (.sh (.bool (i == 2)))
  e4 : isInstI K [.exc C, .glob (.ref 73)] = some (.sh (.bool (i == 3)))
  e5 : isInstI K [.exc C, .glob (.ref 85)] = some (.sh (.bool (i == 4)))
  e6 : isInstI K [.exc C, .glob (.ref 97)] = some (.sh (.bool (i == 5)))
  e7 : isInstI K [.exc C, .glob (.ref 109)] = some (.sh (.bool (i == 6)))
  e8 : isInstI K [.exc C, .glob (.type "ValueError")] = some (.sh (.bool true))
  m : (W.mroIn K C (.ref 24) == some true) = true
noncomputable def wordOf : Nat → Str
  | 0 => "bells"
  | 1 => "row"
  | 2 => "change"
  | 3 => "method"
  | 4 => "call"
  | 5 => "count"
  | _ => "text"
noncomputable def told (x : Str) : T := .ow true (.list [.str "refused", .str x])
noncomputable def someW (i : Nat) : List D := [.tup [.str "bells", .bool (i == 0)], .tup [.str "row", .bool (i == 1)], .tup [.str "change", .bool (i == 2)], .tup [.str "method", .bool (i == 3)], .tup [.str "call", .bool (i == 4)], .tup [.str "count", .bool (i == 5)], .tup [.str "text", .bool (i == 6)]]
theorem word_comp (K : Frag) (C : Addr) (i : Nat) (hi : i < 7) (h : ExcI K C i) : compN (bTuple [1, 2]) (eAnd (eTruth (eOp 2)) (eAnd (eTruth (eVal (eOpN (isInstI K) (eConsB (eOp 3) (eConsB (eVal (eConst (.glob (.type "ValueError")))) eNilB))))) eAndNil)) (eVar 1) [none, none, none, some (.sh (.exc C))] (someW i) [] = some [.str (wordOf i)] := by
  have := compN_step (b := bTuple [1, 2]) (t := eAnd (eTruth (eOp 2)) (eAnd (eTruth (eVal (eOpN (isInstI K) (eConsB (eOp 3) (eConsB (eVal (eConst (.glob (.type "ValueError")))) eNilB))))) eAndNil)) (f := eVar 1) (ρ₀ := [none, none, none, some (.sh (.exc C))]) (q := fun d => match d with | .tup [_, .bool b] => b | _ => false) (g := fun d => match d with | .tup [x, _] => x | _ => .none) (someW i) [] (fun d hd => ?_) (by simp [someW])
  · rw [this]
    have : i = 0 ∨ i = 1 ∨ i = 2 ∨ i = 3 ∨ i = 4 ∨ i = 5 ∨ i = 6 := by omega
    rcases this with rfl | rfl | rfl | rfl | rfl | rfl | rfl <;> rfl
  · have : ∃ x b, d = .tup [.str x, .bool b] := by
      simp only [someW, List.mem_cons, List.not_mem_nil, or_false] at hd
      rcases hd with rfl | rfl | rfl | rfl | rfl | rfl | rfl <;> exact ⟨_, _, rfl⟩
    obtain ⟨x, b, rfl⟩ := this
    have e8 := h.e8
    refine ⟨[none, some (.sh (.str x)), some (.sh (.bool b)), some (.sh (.exc C))], [none, some (.sh (.str x)), some (.sh (.bool b)), some (.sh (.exc C))], rfl, ?_, fun _ => ⟨.sh (.str x), _, rfl, rfl⟩⟩
    cases b with
    | true => show _ = Res.ok true _; repeat' (first|(with_reducible first|assumption|exact Qa|exact Qb|exact Qc|apply Qd|exact Qe|apply Qf|exact Qg|apply Qh|exact Qi|apply Qj|exact Qk|apply Ql|apply Qm|exact Qn|exact Qo|apply Qp|exact Qq|exact Qr|apply Qs|exact Qt|exact Qu|exact Qv|exact Qw|exact Qx|exact Qy|exact Qz|apply QA|apply QB|apply QC|apply QD|apply QE|apply QF|apply QG|apply QH|apply QI|apply QJ|apply QK|apply QL|apply QM|apply QN|apply QO|apply QP|apply QQ|apply QR|apply QS|apply QT|apply QU|apply QV|apply QW|apply QX|apply QY|apply QZ|apply Q0|apply Q1|apply Q2|apply Q3|apply Q4|apply Q5|apply Q6|apply Q7|apply Q8|apply Q9|apply Xa|apply Xb|apply Xc|apply Xd|apply Xe|apply Xf|apply Xg|apply Xh|apply Xi|exact Xj|apply Xk.ok|exact Xk.exc|apply Xl.ok|exact Xl.exc|apply Xm.ok|exact Xm.exc|apply Xn.ok|exact Xn.exc|apply Xo.ok|exact Xo.exc|apply Xp.ok|exact Xp.exc|apply Xq.ok|exact Xq.exc|apply Xr.ok|exact Xr.exc|apply Xs.ok|exact Xs.exc|apply Xu.ok|exact Xu.exc|apply Xv.ok|exact Xv.exc|apply Xw.ok|exact Xw.exc|apply Xx.ok|exact Xx.exc|apply Xy.ok|exact Xy.exc|apply Xz.ok|exact Xz.exc|apply XA.ok|exact XA.exc|apply XB.ok|exact XB.exc|apply XC.ok|exact XC.exc|apply XD.ok|exact XD.exc|apply XE.ok|exact XE.exc|apply XF.ok|exact XF.exc|apply XG.ok|exact XG.exc|apply XH.ok|exact XH.exc|apply XI.ok|exact XI.exc|exact XJ.t|exact XJ.f|exact XJ.exc|apply XK.t|exact XK.f|exact XK.exc|exact XM.t|apply XM.f|exact XM.exc|apply XN.t|exact XN.f|apply XO.andT|exact XO.andF|apply XO.orF|exact XO.orT|apply XQ.next|exact XQ.ret|exact XQ.exc|exact XQ.cont|exact XQ.brk|apply XR.t|apply XR.f|exact XR.exc|exact XS.ok|apply XS.exc|exact XT|apply XU|apply XV.next|exact XV.ret|exact XV.exc|exact XW|exact XX)|exact XY rfl|apply XZ rfl Qa|apply XZ rfl Qb|exact (rfl : listFree _ = true)|exact X0 rfl|apply X1 rfl|exact X2 rfl|exact X3 rfl|exact (rfl : (_ : Option _) = some _)|decide)
    | false => show _ = Res.ok false _; repeat' (first|(with_reducible first|assumption|exact Qa|exact Qb|exact Qc|apply Qd|exact Qe|apply Qf|exact Qg|apply Qh|exact Qi|apply Qj|exact Qk|apply Ql|apply Qm|exact Qn|exact Qo|apply Qp|exact Qq|exact Qr|apply Qs|exact Qt|exact Qu|exact Qv|exact Qw|exact Qx|exact Qy|exact Qz|apply QA|apply QB|apply QC|apply QD|apply QE|apply QF|apply QG|apply QH|apply QI|apply QJ|apply QK|apply QL|apply QM|apply QN|apply QO|apply QP|apply QQ|apply QR|apply QS|apply QT|apply QU|apply QV|apply QW|apply QX|apply QY|apply QZ|apply Q0|apply Q1|apply Q2|apply Q3|apply Q4|apply Q5|apply Q6|apply Q7|apply Q8|apply Q9|apply Xa|apply Xb|apply Xc|apply Xd|apply Xe|apply Xf|apply Xg|apply Xh|apply Xi|exact Xj|apply Xk.ok|exact Xk.exc|apply Xl.ok|exact Xl.exc|apply Xm.ok|exact Xm.exc|apply Xn.ok|exact Xn.exc|apply Xo.ok|exact Xo.exc|apply Xp.ok|exact Xp.exc|apply Xq.ok|exact Xq.exc|apply Xr.ok|exact Xr.exc|apply Xs.ok|exact Xs.exc|apply Xu.ok|exact Xu.exc|apply Xv.ok|exact Xv.exc|apply Xw.ok|exact Xw.exc|apply Xx.ok|exact Xx.exc|apply Xy.ok|exact Xy.exc|apply Xz.ok|exact Xz.exc|apply XA.ok|exact XA.exc|apply XB.ok|exact XB.exc|apply XC.ok|exact XC.exc|apply XD.ok|exact XD.exc|apply XE.ok|exact XE.exc|apply XF.ok|exact XF.exc|apply XG.ok|exact XG.exc|apply XH.ok|exact XH.exc|apply XI.ok|exact XI.exc|exact XJ.t|exact XJ.f|exact XJ.exc|apply XK.t|exact XK.f|exact XK.exc|exact XM.t|apply XM.f|exact XM.exc|apply XN.t|exact XN.f|apply XO.andT|exact XO.andF|apply XO.orF|exact XO.orT|apply XQ.next|exact XQ.ret|exact XQ.exc|exact XQ.cont|exact XQ.brk|apply XR.t|apply XR.f|exact XR.exc|exact XS.ok|apply XS.exc|exact XT|apply XU|apply XV.next|exact XV.ret|exact XV.exc|exact XW|exact XX)|exact XY rfl|apply XZ rfl Qa|apply XZ rfl Qb|exact (rfl : listFree _ = true)|exact X0 rfl|apply X1 rfl|exact X2 rfl|exact X3 rfl|exact (rfl : (_ : Option _) = some _)|decide)
theorem F_law_word_ok (K : Frag) (C : Addr) (i : Nat) (hi : i < 7) (h : ExcI K C i) : F_law_word K [.exc C] = .ok (told (wordOf i)) := by
  have hc := word_comp K C i hi h
  generalize wordOf i = w at hc
  obtain ⟨e1, e2, e3, e4, e5, e6, e7, e8, m⟩ := h
  unfold someW at hc
  generalize (i == 0) = b0 at *
  generalize (i == 1) = b1 at *
  generalize (i == 2) = b2 at *
  generalize (i == 3) = b3 at *
  generalize (i == 4) = b4 at *
  generalize (i == 5) = b5 at *
  generalize (i == 6) = b6 at *
  have a1 : addD (.list [.tup [.str "bells", .bool b0], .tup [.str "row", .bool b1], .tup [.str "change", .bool b2]]) (.list [.tup [.str "method", .bool b3], .tup [.str "call", .bool b4]]) = some (.ow true (.list [.tup [.str "bells", .bool b0], .tup [.str "row", .bool b1], .tup [.str "change", .bool b2], .tup [.str "method", .bool b3], .tup [.str "call", .bool b4]])) := rfl
  have a2 : addD (.list [.tup [.str "bells", .bool b0], .tup [.str "row", .bool b1], .tup [.str "change", .bool b2], .tup [.str "method", .bool b3], .tup [.str "call", .bool b4]]) (.list [.tup [.str "count", .bool b5], .tup [.str "text", .bool b6]]) = some (.ow true (.list [.tup [.str "bells", .bool b0], .tup [.str "row", .bool b1], .tup [.str "change", .bool b2], .tup [.str "method", .bool b3], .tup [.str "call", .bool b4], .tup [.str "count", .bool b5], .tup [.str "text", .bool b6]])) := rfl
  have a3 : lenI [.list [.str w]] = some (.sh (.int 1)) := lenI_list (by simp)
  have a4 := eqI_t 1
  unfold F_law_word f_law_word told
  refine' run_of [some (.sh (.exc C)), none, none] rfl rfl ?_ fin_ret
  repeat' (first|(with_reducible first|assumption|exact Qa|exact Qb|exact Qc|apply Qd|exact Qe|apply Qf|exact Qg|apply Qh|exact Qi|apply Qj|exact Qk|apply Ql|apply Qm|exact Qn|exact Qo|apply Qp|exact Qq|exact Qr|apply Qs|exact Qt|exact Qu|exact Qv|exact Qw|exact Qx|exact Qy|exact Qz|apply QA|apply QB|apply QC|apply QD|apply QE|apply QF|apply QG|apply QH|apply QI|apply QJ|apply QK|apply QL|apply QM|apply QN|apply QO|apply QP|apply QQ|apply QR|apply QS|apply QT|apply QU|apply QV|apply QW|apply QX|apply QY|apply QZ|apply Q0|apply Q1|apply Q2|apply Q3|apply Q4|apply Q5|apply Q6|apply Q7|apply Q8|apply Q9|apply Xa|apply Xb|apply Xc|apply Xd|apply Xe|apply Xf|apply Xg|apply Xh|apply Xi|exact Xj|apply Xk.ok|exact Xk.exc|apply Xl.ok|exact Xl.exc|apply Xm.ok|exact Xm.exc|apply Xn.ok|exact Xn.exc|apply Xo.ok|exact Xo.exc|apply Xp.ok|exact Xp.exc|apply Xq.ok|exact Xq.exc|apply Xr.ok|exact Xr.exc|apply Xs.ok|exact Xs.exc|apply Xu.ok|exact Xu.exc|apply Xv.ok|exact Xv.exc|apply Xw.ok|exact Xw.exc|apply Xx.ok|exact Xx.exc|apply Xy.ok|exact Xy.exc|apply Xz.ok|exact Xz.exc|apply XA.ok|exact XA.exc|apply XB.ok|exact XB.exc|apply XC.ok|exact XC.exc|apply XD.ok|exact XD.exc|apply XE.ok|exact XE.exc|apply XF.ok|exact XF.exc|apply XG.ok|exact XG.exc|apply XH.ok|exact XH.exc|apply XI.ok|exact XI.exc|exact XJ.t|exact XJ.f|exact XJ.exc|apply XK.t|exact XK.f|exact XK.exc|exact XM.t|apply XM.f|exact XM.exc|apply XN.t|exact XN.f|apply XO.andT|exact XO.andF|apply XO.orF|exact XO.orT|apply XQ.next|exact XQ.ret|exact XQ.exc|exact XQ.cont|exact XQ.brk|apply XR.t|apply XR.f|exact XR.exc|exact XS.ok|apply XS.exc|exact XT|apply XU|apply XV.next|exact XV.ret|exact XV.exc|exact XW|exact XX)|exact XY rfl|apply XZ rfl Qa|apply XZ rfl Qb|exact (rfl : listFree _ = true)|exact X0 rfl|apply X1 rfl|exact X2 rfl|exact X3 rfl|exact (rfl : (_ : Option _) = some _)|decide)
theorem so_change : PyData.strOk "change" = true := by decide +kernel
theorem so_text : PyData.strOk "text" = true := by decide +kernel
theorem eq_told (x : Str) (hx : PyData.strOk x = true) : eqI (.list [.str "refused", .str x]) (.list [.str "refused", .str x]) = some (.sh (.bool true)) := by
  unfold eqI eqD
  simp [toPy, toPys, SeqAt.shaped, PyData.canLay0, PyData.canLayAll0, PyData.depth, PyData.depthAll, PyData.eqv, PyData.eqvAll, hx, so_refused]
theorem plOk_mem {n : Int} : ∀ {l : List D} {ah : Int}, plOk n ah l = true → ∀ d ∈ l, ∃ v, d = .int v ∧ ah + 2 ≤ v ∧ v ≤ n - 2
  | [], _, _, d, hd => by cases hd
  | x :: l, ah, h, d, hd => by
    cases x with
    | int p =>
      rw [plOk] at h
      simp only [Bool.and_eq_true, decide_eq_true_eq] at h
      cases hd with
      | head => exact ⟨p, rfl, h.1.1, h.1.2⟩
      | tail _ hd =>
        obtain ⟨v, e, h1, h2⟩ := plOk_mem h.2 d hd
        exact ⟨v, e, by omega, h2⟩
    | _ => cases h
structure OddC (K : Frag) (n : Nat) (d : D) : Prop where
  no : F_need_places K [.int n, d] = .exc 61
theorem odd_tup (K : Frag) (n : Nat) (ds : List D) (hn : ds ≠ []) (hl : ds.length ≤ 1000) (hc : ∀ d ∈ ds, calm d = true) (h : plOk n (-2) ds ≠ true) : OddC K n (.tup ds) := by
  refine ⟨?_⟩
  rw [F_need_places_tup K n ds hn (by omega) hc, if_neg h]
theorem chOk_le {n : Nat} : ∀ {cs : List Nat} {lo : Nat}, chOk n lo cs = true → ∀ x ∈ cs, x + 2 ≤ n
  | [], _, _, x, hx => by cases hx
  | p :: r, lo, h, x, hx => by
    rw [chOk] at h
    simp only [Bool.and_eq_true, decide_eq_true_eq] at h
    cases hx with
    | head => exact h.1.2
    | tail _ hx => exact chOk_le h.2 x hx
end Mine
end

section
set_option Elab.async false
set_option maxRecDepth 100000
set_option maxHeartbeats 4000000
set_option linter.unusedSimpArgs false
set_option linter.unusedVariables false
namespace Mine
open PySem PySem.W
theorem sg_get {p : Nat} (h : p < 12) : sg[p]? = some (sg.getD p 0) := by
  have : p < sg.length := h
  rw [List.getD_eq_getElem?_getD, List.getElem?_eq_getElem this]; rfl
theorem sg_nodup : sg.Nodup := by decide
noncomputable def sgAt (p : Int) : Nat := sg.getD p.toNat 0
theorem sign_idx {p : Int} (h0 : 0 ≤ p) (h1 : p < 12) : strIdx (.str "1234567890et") (.int p) = some (.sh (.str (sgn (sgAt p)))) := by
  have := strIdx_txt (cs := sg) (p := p.toNat) (sg_get (by omega)) (by decide)
  rw [signs_txt, show p = ((p.toNat : Nat) : Int) by omega]
  unfold sgAt
  rw [Int.toNat_natCast]
  exact this
theorem comp_signs {ns : List Int} (h : ∀ p ∈ ns, 0 ≤ p ∧ p < 12) (hl : ns.length ≤ 1000) : compN (bName 1) eAll (eOp2 strIdx (eVal (eConst (.str "1234567890et"))) (eOp 1)) [none, none] (iL ns) [] = some (((ns.map sgAt).map sgn).map .str) := by
  have := compN_map (b := bName 1) (f := eOp2 strIdx (eVal (eConst (.str "1234567890et"))) (eOp 1)) (ρ₀ := [none, none]) (g := fun d => match d with | .int p => .str (sgn (sgAt p)) | _ => .none) (iL ns) (fun d hd => ?_) (by rw [iL_length]; omega)
  · rw [this]
    unfold iL
    rw [List.map_map, List.map_map, List.map_map]
    rfl
  · obtain ⟨p, hp, rfl⟩ := List.mem_map.mp hd
    have e := sign_idx (h p hp).1 (h p hp).2
    refine ⟨[none, some (.sh (.int p))], .sh (.str (sgn (sgAt p))), [none, some (.sh (.int p))], rfl, ?_, rfl⟩
    repeat' (first|(with_reducible first|assumption|exact Qa|exact Qb|exact Qc|apply Qd|exact Qe|apply Qf|exact Qg|apply Qh|exact Qi|apply Qj|exact Qk|apply Ql|apply Qm|exact Qn|exact Qo|apply Qp|exact Qq|exact Qr|apply Qs|exact Qt|exact Qu|exact Qv|exact Qw|exact Qx|exact Qy|exact Qz|apply QA|apply QB|apply QC|apply QD|apply QE|apply QF|apply QG|apply QH|apply QI|apply QJ|apply QK|apply QL|apply QM|apply QN|apply QO|apply QP|apply QQ|apply QR|apply QS|apply QT|apply QU|apply QV|apply QW|apply QX|apply QY|apply QZ|apply Q0|apply Q1|apply Q2|apply Q3|apply Q4|apply Q5|apply Q6|apply Q7|apply Q8|apply Q9|apply Xa|apply Xb|apply Xc|apply Xd|apply Xe|apply Xf|apply Xg|apply Xh|apply Xi|exact Xj|apply Xk.ok|exact Xk.exc|apply Xl.ok|exact Xl.exc|apply Xm.ok|exact Xm.exc|apply Xn.ok|exact Xn.exc|apply Xo.ok|exact Xo.exc|apply Xp.ok|exact Xp.exc|apply Xq.ok|exact Xq.exc|apply Xr.ok|exact Xr.exc|apply Xs.ok|exact Xs.exc|apply Xu.ok|exact Xu.exc|apply Xv.ok|exact Xv.exc|apply Xw.ok|exact Xw.exc|apply Xx.ok|exact Xx.exc|apply Xy.ok|exact Xy.exc|apply Xz.ok|exact Xz.exc|apply XA.ok|exact XA.exc|apply XB.ok|exact XB.exc|apply XC.ok|exact XC.exc|apply XD.ok|exact XD.exc|apply XE.ok|exact XE.exc|apply XF.ok|exact XF.exc|apply XG.ok|exact XG.exc|apply XH.ok|exact XH.exc|apply XI.ok|exact XI.exc|exact XJ.t|exact XJ.f|exact XJ.exc|apply XK.t|exact XK.f|exact XK.exc|exact XM.t|apply XM.f|exact XM.exc|apply XN.t|exact XN.f|apply XO.andT|exact XO.andF|apply XO.orF|exact XO.orT|apply XQ.next|exact XQ.ret|exact XQ.exc|exact XQ.cont|exact XQ.brk|apply XR.t|apply XR.f|exact XR.exc|exact XS.ok|apply XS.exc|exact XT|apply XU|apply XV.next|exact XV.ret|exact XV.exc|exact XW|exact XX)|exact XY rfl|apply XZ rfl Qa|apply XZ rfl Qb|exact (rfl : listFree _ = true)|exact X0 rfl|apply X1 rfl|exact X2 rfl|exact X3 rfl|exact (rfl : (_ : Option _) = some _)|decide)
theorem F_signs_of_tup (K : Frag) {ns : List Int} (h : ∀ p ∈ ns, 0 ≤ p ∧ p < 12) (hl : ns.length ≤ 1000) : F_signs_of K [.tup (iL ns)] = .ok (.sh (.str (txt (ns.map sgAt)))) := by
  have e1 := comp_signs h hl
  have e2 := join_txt (cs := ns.map sgAt) (by rw [List.length_map]; exact hl)
  have e3 : itemsD (.tup (iL ns)) = some (iL ns) := rfl
  unfold F_signs_of f_signs_of
  refine' run_of [some (.sh (.tup (iL ns)))] rfl rfl ?_ fin_ret
  repeat' (first|(with_reducible first|assumption|exact Qa|exact Qb|exact Qc|apply Qd|exact Qe|apply Qf|exact Qg|apply Qh|exact Qi|apply Qj|exact Qk|apply Ql|apply Qm|exact Qn|exact Qo|apply Qp|exact Qq|exact Qr|apply Qs|exact Qt|exact Qu|exact Qv|exact Qw|exact Qx|exact Qy|exact Qz|apply QA|apply QB|apply QC|apply QD|apply QE|apply QF|apply QG|apply QH|apply QI|apply QJ|apply QK|apply QL|apply QM|apply QN|apply QO|apply QP|apply QQ|apply QR|apply QS|apply QT|apply QU|apply QV|apply QW|apply QX|apply QY|apply QZ|apply Q0|apply Q1|apply Q2|apply Q3|apply Q4|apply Q5|apply Q6|apply Q7|apply Q8|apply Q9|apply Xa|apply Xb|apply Xc|apply Xd|apply Xe|apply Xf|apply Xg|apply Xh|apply Xi|exact Xj|apply Xk.ok|exact Xk.exc|apply Xl.ok|exact Xl.exc|apply Xm.ok|exact Xm.exc|apply Xn.ok|exact Xn.exc|apply Xo.ok|exact Xo.exc|apply Xp.ok|exact Xp.exc|apply Xq.ok|exact Xq.exc|apply Xr.ok|exact Xr.exc|apply Xs.ok|exact Xs.exc|apply Xu.ok|exact Xu.exc|apply Xv.ok|exact Xv.exc|apply Xw.ok|exact Xw.exc|apply Xx.ok|exact Xx.exc|apply Xy.ok|exact Xy.exc|apply Xz.ok|exact Xz.exc|apply XA.ok|exact XA.exc|apply XB.ok|exact XB.exc|apply XC.ok|exact XC.exc|apply XD.ok|exact XD.exc|apply XE.ok|exact XE.exc|apply XF.ok|exact XF.exc|apply XG.ok|exact XG.exc|apply XH.ok|exact XH.exc|apply XI.ok|exact XI.exc|exact XJ.t|exact XJ.f|exact XJ.exc|apply XK.t|exact XK.f|exact XK.exc|exact XM.t|apply XM.f|exact XM.exc|apply XN.t|exact XN.f|apply XO.andT|exact XO.andF|apply XO.orF|exact XO.orT|apply XQ.next|exact XQ.ret|exact XQ.exc|exact XQ.cont|exact XQ.brk|apply XR.t|apply XR.f|exact XR.exc|exact XS.ok|apply XS.exc|exact XT|apply XU|apply XV.next|exact XV.ret|exact XV.exc|exact XW|exact XX)|exact XY rfl|apply XZ rfl Qa|apply XZ rfl Qb|exact (rfl : listFree _ = true)|exact X0 rfl|apply X1 rfl|exact X2 rfl|exact X3 rfl|exact (rfl : (_ : Option _) = some _)|decide)
theorem F_signs_of_list (K : Frag) {ns : List Int} (h : ∀ p ∈ ns, 0 ≤ p ∧ p < 12) (hl : ns.length ≤ 1000) : F_signs_of K [.list (iL ns)] = .ok (.sh (.str (txt (ns.map sgAt)))) := by
  have e1 := comp_signs h hl
  have e2 := join_txt (cs := ns.map sgAt) (by rw [List.length_map]; exact hl)
  have e3 : itemsD (.list (iL ns)) = some (iL ns) := rfl
  unfold F_signs_of f_signs_of
  refine' run_of [some (.sh (.list (iL ns)))] rfl rfl ?_ fin_ret
  repeat' (first|(with_reducible first|assumption|exact Qa|exact Qb|exact Qc|apply Qd|exact Qe|apply Qf|exact Qg|apply Qh|exact Qi|apply Qj|exact Qk|apply Ql|apply Qm|exact Qn|exact Qo|apply Qp|exact Qq|exact Qr|apply Qs|exact Qt|exact Qu|exact Qv|exact Qw|exact Qx|exact Qy|exact Qz|apply QA|apply QB|apply QC|apply QD|apply QE|apply QF|apply QG|apply QH|apply QI|apply QJ|apply QK|apply QL|apply QM|apply QN|apply QO|apply QP|apply QQ|apply QR|apply QS|apply QT|apply QU|apply QV|apply QW|apply QX|apply QY|apply QZ|apply Q0|apply Q1|apply Q2|apply Q3|apply Q4|apply Q5|apply Q6|apply Q7|apply Q8|apply Q9|apply Xa|apply Xb|apply Xc|apply Xd|apply Xe|apply Xf|apply Xg|apply Xh|apply Xi|exact Xj|apply Xk.ok|exact Xk.exc|apply Xl.ok|exact Xl.exc|apply Xm.ok|exact Xm.exc|apply Xn.ok|exact Xn.exc|apply Xo.ok|exact Xo.exc|apply Xp.ok|exact Xp.exc|apply Xq.ok|exact Xq.exc|apply Xr.ok|exact Xr.exc|apply Xs.ok|exact Xs.exc|apply Xu.ok|exact Xu.exc|apply Xv.ok|exact Xv.exc|apply Xw.ok|exact Xw.exc|apply Xx.ok|exact Xx.exc|apply Xy.ok|exact Xy.exc|apply Xz.ok|exact Xz.exc|apply XA.ok|exact XA.exc|apply XB.ok|exact XB.exc|apply XC.ok|exact XC.exc|apply XD.ok|exact XD.exc|apply XE.ok|exact XE.exc|apply XF.ok|exact XF.exc|apply XG.ok|exact XG.exc|apply XH.ok|exact XH.exc|apply XI.ok|exact XI.exc|exact XJ.t|exact XJ.f|exact XJ.exc|apply XK.t|exact XK.f|exact XK.exc|exact XM.t|apply XM.f|exact XM.exc|apply XN.t|exact XN.f|apply XO.andT|exact XO.andF|apply XO.orF|exact XO.orT|apply XQ.next|exact XQ.ret|exact XQ.exc|exact XQ.cont|exact XQ.brk|apply XR.t|apply XR.f|exact XR.exc|exact XS.ok|apply XS.exc|exact XT|apply XU|apply XV.next|exact XV.ret|exact XV.exc|exact XW|exact XX)|exact XY rfl|apply XZ rfl Qa|apply XZ rfl Qb|exact (rfl : listFree _ = true)|exact X0 rfl|apply X1 rfl|exact X2 rfl|exact X3 rfl|exact (rfl : (_ : Option _) = some _)|decide)
theorem row_lt {n : Nat} {a : List Int} (r : Row n a) : ∀ p ∈ a, 0 ≤ p ∧ p < 12 := fun p hp => by
  have := r.mem.mp hp
  have := r.h12
  omega
theorem F_row_text_ok (K : Frag) {n : Nat} {a : List Int} (r : Row n a) : F_row_text K [.tup (iL a)] = .ok (.sh (.str (txt (a.map sgAt)))) := by
  have e1 := F_need_row_ok K _ (F_is_row_row K r)
  have e2 := F_signs_of_tup K (row_lt r) (by rw [r.len]; have := r.h12; omega)
  unfold F_row_text f_row_text
  refine' run_of [some (.sh (.tup (iL a)))] rfl rfl ?_ fin_ret
  repeat' (first|(with_reducible first|assumption|exact Qa|exact Qb|exact Qc|apply Qd|exact Qe|apply Qf|exact Qg|apply Qh|exact Qi|apply Qj|exact Qk|apply Ql|apply Qm|exact Qn|exact Qo|apply Qp|exact Qq|exact Qr|apply Qs|exact Qt|exact Qu|exact Qv|exact Qw|exact Qx|exact Qy|exact Qz|apply QA|apply QB|apply QC|apply QD|apply QE|apply QF|apply QG|apply QH|apply QI|apply QJ|apply QK|apply QL|apply QM|apply QN|apply QO|apply QP|apply QQ|apply QR|apply QS|apply QT|apply QU|apply QV|apply QW|apply QX|apply QY|apply QZ|apply Q0|apply Q1|apply Q2|apply Q3|apply Q4|apply Q5|apply Q6|apply Q7|apply Q8|apply Q9|apply Xa|apply Xb|apply Xc|apply Xd|apply Xe|apply Xf|apply Xg|apply Xh|apply Xi|exact Xj|apply Xk.ok|exact Xk.exc|apply Xl.ok|exact Xl.exc|apply Xm.ok|exact Xm.exc|apply Xn.ok|exact Xn.exc|apply Xo.ok|exact Xo.exc|apply Xp.ok|exact Xp.exc|apply Xq.ok|exact Xq.exc|apply Xr.ok|exact Xr.exc|apply Xs.ok|exact Xs.exc|apply Xu.ok|exact Xu.exc|apply Xv.ok|exact Xv.exc|apply Xw.ok|exact Xw.exc|apply Xx.ok|exact Xx.exc|apply Xy.ok|exact Xy.exc|apply Xz.ok|exact Xz.exc|apply XA.ok|exact XA.exc|apply XB.ok|exact XB.exc|apply XC.ok|exact XC.exc|apply XD.ok|exact XD.exc|apply XE.ok|exact XE.exc|apply XF.ok|exact XF.exc|apply XG.ok|exact XG.exc|apply XH.ok|exact XH.exc|apply XI.ok|exact XI.exc|exact XJ.t|exact XJ.f|exact XJ.exc|apply XK.t|exact XK.f|exact XK.exc|exact XM.t|apply XM.f|exact XM.exc|apply XN.t|exact XN.f|apply XO.andT|exact XO.andF|apply XO.orF|exact XO.orT|apply XQ.next|exact XQ.ret|exact XQ.exc|exact XQ.cont|exact XQ.brk|apply XR.t|apply XR.f|exact XR.exc|exact XS.ok|apply XS.exc|exact XT|apply XU|apply XV.next|exact XV.ret|exact XV.exc|exact XW|exact XX)|exact XY rfl|apply XZ rfl Qa|apply XZ rfl Qb|exact (rfl : listFree _ = true)|exact X0 rfl|apply X1 rfl|exact X2 rfl|exact X3 rfl|exact (rfl : (_ : Option _) = some _)|decide)
theorem F_row_text_bad (K : Frag) (d : D) (h : F_is_row K [d] = .ok (.sh (.bool false))) : F_row_text K [d] = .exc 49 := by
  have e1 := F_need_row_bad K _ h
  unfold F_row_text f_row_text
  refine' run_of [some (.sh d)] rfl rfl ?_ fin_exc
  repeat' (first|(with_reducible first|assumption|exact Qa|exact Qb|exact Qc|apply Qd|exact Qe|apply Qf|exact Qg|apply Qh|exact Qi|apply Qj|exact Qk|apply Ql|apply Qm|exact Qn|exact Qo|apply Qp|exact Qq|exact Qr|apply Qs|exact Qt|exact Qu|exact Qv|exact Qw|exact Qx|exact Qy|exact Qz|apply QA|apply QB|apply QC|apply QD|apply QE|apply QF|apply QG|apply QH|apply QI|apply QJ|apply QK|apply QL|apply QM|apply QN|apply QO|apply QP|apply QQ|apply QR|apply QS|apply QT|apply QU|apply QV|apply QW|apply QX|apply QY|apply QZ|apply Q0|apply Q1|apply Q2|apply Q3|apply Q4|apply Q5|apply Q6|apply Q7|apply Q8|apply Q9|apply Xa|apply Xb|apply Xc|apply Xd|apply Xe|apply Xf|apply Xg|apply Xh|apply Xi|exact Xj|apply Xk.ok|exact Xk.exc|apply Xl.ok|exact Xl.exc|apply Xm.ok|exact Xm.exc|apply Xn.ok|exact Xn.exc|apply Xo.ok|exact Xo.exc|apply Xp.ok|exact Xp.exc|apply Xq.ok|exact Xq.exc|apply Xr.ok|exact Xr.exc|apply Xs.ok|exact Xs.exc|apply Xu.ok|exact Xu.exc|apply Xv.ok|exact Xv.exc|apply Xw.ok|exact Xw.exc|apply Xx.ok|exact Xx.exc|apply Xy.ok|exact Xy.exc|apply Xz.ok|exact Xz.exc|apply XA.ok|exact XA.exc|apply XB.ok|exact XB.exc|apply XC.ok|exact XC.exc|apply XD.ok|exact XD.exc|apply XE.ok|exact XE.exc|apply XF.ok|exact XF.exc|apply XG.ok|exact XG.exc|apply XH.ok|exact XH.exc|apply XI.ok|exact XI.exc|exact XJ.t|exact XJ.f|exact XJ.exc|apply XK.t|exact XK.f|exact XK.exc|exact XM.t|apply XM.f|exact XM.exc|apply XN.t|exact XN.f|apply XO.andT|exact XO.andF|apply XO.orF|exact XO.orT|apply XQ.next|exact XQ.ret|exact XQ.exc|exact XQ.cont|exact XQ.brk|apply XR.t|apply XR.f|exact XR.exc|exact XS.ok|apply XS.exc|exact XT|apply XU|apply XV.next|exact XV.ret|exact XV.exc|exact XW|exact XX)|exact XY rfl|apply XZ rfl Qa|apply XZ rfl Qb|exact (rfl : listFree _ = true)|exact X0 rfl|apply X1 rfl|exact X2 rfl|exact X3 rfl|exact (rfl : (_ : Option _) = some _)|decide)
theorem F_law_written_ok (K : Frag) {n : Nat} {a : List Int} (r : Row n a) : F_law_written K [.tup (iL a)] = .ok (.sh (.str (txt (a.map sgAt)))) := by
  have hl : a.length ≤ 1000 := by rw [r.len]; have := r.h12; omega
  have e1 : compN (bName 1) eAll (eSliceS (eVal (eConst (.str "1234567890et"))) (ePart (eOp 1)) (ePart (eVal (eOp2 addS (eOp 1) (eVal (eConst (.int 1))))))) [none, none] (iL a) [] = some (((a.map sgAt).map sgn).map .str) := by
    have := compN_map (b := bName 1) (f := eSliceS (eVal (eConst (.str "1234567890et"))) (ePart (eOp 1)) (ePart (eVal (eOp2 addS (eOp 1) (eVal (eConst (.int 1))))))) (ρ₀ := [none, none]) (g := fun d => match d with | .int p => .str (sgn (sgAt p)) | _ => .none) (iL a) (fun d hd => ?_) (by rw [iL_length]; omega)
    · rw [this]
      unfold iL
      rw [List.map_map, List.map_map, List.map_map]
      rfl
    · obtain ⟨p, hp, rfl⟩ := List.mem_map.mp hd
      have hb := row_lt r p hp
      have e := sliceS_one (cs := sg) (k := p.toNat) (c := sgAt p) (by decide) (sg_get (by omega))
      rw [← signs_txt, show ((p.toNat : Nat) : Int) = p by omega] at e
      refine ⟨[none, some (.sh (.int p))], .sh (.str (sgn (sgAt p))), [none, some (.sh (.int p))], rfl, ?_, rfl⟩
      repeat' (first|(with_reducible first|assumption|exact Qa|exact Qb|exact Qc|apply Qd|exact Qe|apply Qf|exact Qg|apply Qh|exact Qi|apply Qj|exact Qk|apply Ql|apply Qm|exact Qn|exact Qo|apply Qp|exact Qq|exact Qr|apply Qs|exact Qt|exact Qu|exact Qv|exact Qw|exact Qx|exact Qy|exact Qz|apply QA|apply QB|apply QC|apply QD|apply QE|apply QF|apply QG|apply QH|apply QI|apply QJ|apply QK|apply QL|apply QM|apply QN|apply QO|apply QP|apply QQ|apply QR|apply QS|apply QT|apply QU|apply QV|apply QW|apply QX|apply QY|apply QZ|apply Q0|apply Q1|apply Q2|apply Q3|apply Q4|apply Q5|apply Q6|apply Q7|apply Q8|apply Q9|apply Xa|apply Xb|apply Xc|apply Xd|apply Xe|apply Xf|apply Xg|apply Xh|apply Xi|exact Xj|apply Xk.ok|exact Xk.exc|apply Xl.ok|exact Xl.exc|apply Xm.ok|exact Xm.exc|apply Xn.ok|exact Xn.exc|apply Xo.ok|exact Xo.exc|apply Xp.ok|exact Xp.exc|apply Xq.ok|exact Xq.exc|apply Xr.ok|exact Xr.exc|apply Xs.ok|exact Xs.exc|apply Xu.ok|exact Xu.exc|apply Xv.ok|exact Xv.exc|apply Xw.ok|exact Xw.exc|apply Xx.ok|exact Xx.exc|apply Xy.ok|exact Xy.exc|apply Xz.ok|exact Xz.exc|apply XA.ok|exact XA.exc|apply XB.ok|exact XB.exc|apply XC.ok|exact XC.exc|apply XD.ok|exact XD.exc|apply XE.ok|exact XE.exc|apply XF.ok|exact XF.exc|apply XG.ok|exact XG.exc|apply XH.ok|exact XH.exc|apply XI.ok|exact XI.exc|exact XJ.t|exact XJ.f|exact XJ.exc|apply XK.t|exact XK.f|exact XK.exc|exact XM.t|apply XM.f|exact XM.exc|apply XN.t|exact XN.f|apply XO.andT|exact XO.andF|apply XO.orF|exact XO.orT|apply XQ.next|exact XQ.ret|exact XQ.exc|exact XQ.cont|exact XQ.brk|apply XR.t|apply XR.f|exact XR.exc|exact XS.ok|apply XS.exc|exact XT|apply XU|apply XV.next|exact XV.ret|exact XV.exc|exact XW|exact XX)|exact XY rfl|apply XZ rfl Qa|apply XZ rfl Qb|exact (rfl : listFree _ = true)|exact X0 rfl|apply X1 rfl|exact X2 rfl|exact X3 rfl|exact (rfl : (_ : Option _) = some _)|decide)
  have e2 := join_txt (cs := a.map sgAt) (by rw [List.length_map]; exact hl)
  have e3 : itemsD (.tup (iL a)) = some (iL a) := rfl
  unfold F_law_written f_law_written
  refine' run_of [some (.sh (.tup (iL a)))] rfl rfl ?_ fin_ret
  repeat' (first|(with_reducible first|assumption|exact Qa|exact Qb|exact Qc|apply Qd|exact Qe|apply Qf|exact Qg|apply Qh|exact Qi|apply Qj|exact Qk|apply Ql|apply Qm|exact Qn|exact Qo|apply Qp|exact Qq|exact Qr|apply Qs|exact Qt|exact Qu|exact Qv|exact Qw|exact Qx|exact Qy|exact Qz|apply QA|apply QB|apply QC|apply QD|apply QE|apply QF|apply QG|apply QH|apply QI|apply QJ|apply QK|apply QL|apply QM|apply QN|apply QO|apply QP|apply QQ|apply QR|apply QS|apply QT|apply QU|apply QV|apply QW|apply QX|apply QY|apply QZ|apply Q0|apply Q1|apply Q2|apply Q3|apply Q4|apply Q5|apply Q6|apply Q7|apply Q8|apply Q9|apply Xa|apply Xb|apply Xc|apply Xd|apply Xe|apply Xf|apply Xg|apply Xh|apply Xi|exact Xj|apply Xk.ok|exact Xk.exc|apply Xl.ok|exact Xl.exc|apply Xm.ok|exact Xm.exc|apply Xn.ok|exact Xn.exc|apply Xo.ok|exact Xo.exc|apply Xp.ok|exact Xp.exc|apply Xq.ok|exact Xq.exc|apply Xr.ok|exact Xr.exc|apply Xs.ok|exact Xs.exc|apply Xu.ok|exact Xu.exc|apply Xv.ok|exact Xv.exc|apply Xw.ok|exact Xw.exc|apply Xx.ok|exact Xx.exc|apply Xy.ok|exact Xy.exc|apply Xz.ok|exact Xz.exc|apply XA.ok|exact XA.exc|apply XB.ok|exact XB.exc|apply XC.ok|exact XC.exc|apply XD.ok|exact XD.exc|apply XE.ok|exact XE.exc|apply XF.ok|exact XF.exc|apply XG.ok|exact XG.exc|apply XH.ok|exact XH.exc|apply XI.ok|exact XI.exc|exact XJ.t|exact XJ.f|exact XJ.exc|apply XK.t|exact XK.f|exact XK.exc|exact XM.t|apply XM.f|exact XM.exc|apply XN.t|exact XN.f|apply XO.andT|exact XO.andF|apply XO.orF|exact XO.orT|apply XQ.next|exact XQ.ret|exact XQ.exc|exact XQ.cont|exact XQ.brk|apply XR.t|apply XR.f|exact XR.exc|exact XS.ok|apply XS.exc|exact XT|apply XU|apply XV.next|exact XV.ret|exact XV.exc|exact XW|exact XX)|exact XY rfl|apply XZ rfl Qa|apply XZ rfl Qb|exact (rfl : listFree _ = true)|exact X0 rfl|apply X1 rfl|exact X2 rfl|exact X3 rfl|exact (rfl : (_ : Option _) = some _)|decide)
noncomputable def idxOf (c : Nat) : Int := (sg.findIdx (· == c) : Nat)
theorem idxOf_get {c : Nat} (h : c ∈ sg) : sg[sg.findIdx (· == c)]? = some c := by
  have h1 : sg.findIdx (· == c) < sg.length := List.findIdx_lt_length_of_exists ⟨c, h, by simp⟩
  rw [List.getElem?_eq_getElem h1]
  have := List.findIdx_getElem (w := h1)
  simp at this
  rw [this]
theorem sgAt_idxOf {c : Nat} (h : c ∈ sg) : sgAt (idxOf c) = c := by
  unfold sgAt idxOf
  rw [Int.toNat_natCast, List.getD_eq_getElem?_getD, idxOf_get h]; rfl
theorem idxOf_sgAt {p : Int} (h0 : 0 ≤ p) (h1 : p < 12) : idxOf (sgAt p) = p := by
  have hm : sgAt p ∈ sg := List.mem_of_getElem? (sg_get (p := p.toNat) (by omega))
  have e := nodup_idx sg_nodup (idxOf_get hm) (sg_get (p := p.toNat) (by omega))
  unfold idxOf; omega
theorem sgAt_mem {p : Int} (h0 : 0 ≤ p) (h1 : p < 12) : sgAt p ∈ sg := List.mem_of_getElem? (sg_get (p := p.toNat) (by omega))
theorem places_loop' (K : Frag) {dt : D} {cs : List Nat} (hl : cs.length ≤ 1000) : ∃ r, forN (bName 2) (sSeq (sIf (eTest2 notInI (eOp 2) (eVal (eConst (.str "1234567890et")))) (sSeq (sRaise 109 (eCons (eConst (.str "no such sign")) eNil)) sNil) sNil) (sSeq (sExpr (eVal (eAppend 1 (eMeth sidxI (eVal (eConst (.str "1234567890et"))) (eConsB (eOp 2) eNilB))))) sNil)) ((cs.map sgn).map .str) [some (.sh dt), some (.ow true (.list [])), none] = r ∧ (if cs.all (· ∈ sg) then ∃ v, r = .ok .next [some (.sh dt), some (.ow true (.list (iL (cs.map idxOf)))), v] else ∃ ρ, r = .exc 109 ρ) := by
  refine for_ex (fun ρ ds => ∃ (done rest : List Nat) (v : Option T), ρ = [some (.sh dt), some (.ow true (.list (iL (done.map idxOf)))), v] ∧ ds = (rest.map sgn).map .str ∧ cs = done ++ rest ∧ done.all (· ∈ sg) = true) _ ?_ ?_ ((cs.map sgn).map .str) _ ⟨[], cs, none, rfl, rfl, rfl, rfl⟩
  · rintro ρ ⟨done, rest, v, rfl, h1, h2, h3⟩
    have : rest = [] := by simpa using h1.symm
    subst this
    rw [List.append_nil] at h2
    subst h2
    rw [h3, if_pos rfl]; exact ⟨_, rfl⟩
  · rintro ρ d ds ⟨done, rest, v, rfl, h1, h2, h3⟩
    cases rest with
    | nil => cases h1
    | cons c rest =>
      cases h1
      refine ⟨[some (.sh dt), some (.ow true (.list (iL (done.map idxOf)))), some (.sh (.str (sgn c)))], ?_⟩
      have e1 := notIn_sgn sg c
      rw [← signs_txt] at e1
      by_cases hc : c ∈ sg
      · rw [decide_eq_true hc, Bool.not_true] at e1
        have e2 : sidxI [.str (txt sg), .str (sgn c)] = some (.sh (.int (idxOf c))) := sidx_sgn sg_nodup (idxOf_get hc)
        rw [← signs_txt] at e2
        have hlen : (iL (done.map idxOf)).length ≤ 1000000 := by
          rw [iL_length, List.length_map]
          have : cs.length = done.length + (c :: rest).length := by rw [h2, List.length_append]
          omega
        refine ⟨.ok .next [some (.sh dt), some (.ow true (.list (iL (done.map idxOf) ++ [.int (idxOf c)]))), some (.sh (.str (sgn c)))], rfl, ?_, done ++ [c], rest, some (.sh (.str (sgn c))), ?_, rfl, by rw [h2]; simp, by rw [List.all_append, h3]; simp [hc]⟩
        · repeat' (first|(with_reducible first|assumption|exact Qa|exact Qb|exact Qc|apply Qd|exact Qe|apply Qf|exact Qg|apply Qh|exact Qi|apply Qj|exact Qk|apply Ql|apply Qm|exact Qn|exact Qo|apply Qp|exact Qq|exact Qr|apply Qs|exact Qt|exact Qu|exact Qv|exact Qw|exact Qx|exact Qy|exact Qz|apply QA|apply QB|apply QC|apply QD|apply QE|apply QF|apply QG|apply QH|apply QI|apply QJ|apply QK|apply QL|apply QM|apply QN|apply QO|apply QP|apply QQ|apply QR|apply QS|apply QT|apply QU|apply QV|apply QW|apply QX|apply QY|apply QZ|apply Q0|apply Q1|apply Q2|apply Q3|apply Q4|apply Q5|apply Q6|apply Q7|apply Q8|apply Q9|apply Xa|apply Xb|apply Xc|apply Xd|apply Xe|apply Xf|apply Xg|apply Xh|apply Xi|exact Xj|apply Xk.ok|exact Xk.exc|apply Xl.ok|exact Xl.exc|apply Xm.ok|exact Xm.exc|apply Xn.ok|exact Xn.exc|apply Xo.ok|exact Xo.exc|apply Xp.ok|exact Xp.exc|apply Xq.ok|exact Xq.exc|apply Xr.ok|exact Xr.exc|apply Xs.ok|exact Xs.exc|apply Xu.ok|exact Xu.exc|apply Xv.ok|exact Xv.exc|apply Xw.ok|exact Xw.exc|apply Xx.ok|exact Xx.exc|apply Xy.ok|exact Xy.exc|apply Xz.ok|exact Xz.exc|apply XA.ok|exact XA.exc|apply XB.ok|exact XB.exc|apply XC.ok|exact XC.exc|apply XD.ok|exact XD.exc|apply XE.ok|exact XE.exc|apply XF.ok|exact XF.exc|apply XG.ok|exact XG.exc|apply XH.ok|exact XH.exc|apply XI.ok|exact XI.exc|exact XJ.t|exact XJ.f|exact XJ.exc|apply XK.t|exact XK.f|exact XK.exc|exact XM.t|apply XM.f|exact XM.exc|apply XN.t|exact XN.f|apply XO.andT|exact XO.andF|apply XO.orF|exact XO.orT|apply XQ.next|exact XQ.ret|exact XQ.exc|exact XQ.cont|exact XQ.brk|apply XR.t|apply XR.f|exact XR.exc|exact XS.ok|apply XS.exc|exact XT|apply XU|apply XV.next|exact XV.ret|exact XV.exc|exact XW|exact XX)|exact XY rfl|apply XZ rfl Qa|apply XZ rfl Qb|exact (rfl : listFree _ = true)|exact X0 rfl|apply X1 rfl|exact X2 rfl|exact X3 rfl|exact (rfl : (_ : Option _) = some _)|decide)
        · rw [List.map_append, ← iL_app]; rfl
      · rw [decide_eq_false hc, Bool.not_false] at e1
        refine ⟨.exc 109 [some (.sh dt), some (.ow true (.list (iL (done.map idxOf)))), some (.sh (.str (sgn c)))], rfl, ?_, ?_⟩
        · repeat' (first|(with_reducible first|assumption|exact Qa|exact Qb|exact Qc|apply Qd|exact Qe|apply Qf|exact Qg|apply Qh|exact Qi|apply Qj|exact Qk|apply Ql|apply Qm|exact Qn|exact Qo|apply Qp|exact Qq|exact Qr|apply Qs|exact Qt|exact Qu|exact Qv|exact Qw|exact Qx|exact Qy|exact Qz|apply QA|apply QB|apply QC|apply QD|apply QE|apply QF|apply QG|apply QH|apply QI|apply QJ|apply QK|apply QL|apply QM|apply QN|apply QO|apply QP|apply QQ|apply QR|apply QS|apply QT|apply QU|apply QV|apply QW|apply QX|apply QY|apply QZ|apply Q0|apply Q1|apply Q2|apply Q3|apply Q4|apply Q5|apply Q6|apply Q7|apply Q8|apply Q9|apply Xa|apply Xb|apply Xc|apply Xd|apply Xe|apply Xf|apply Xg|apply Xh|apply Xi|exact Xj|apply Xk.ok|exact Xk.exc|apply Xl.ok|exact Xl.exc|apply Xm.ok|exact Xm.exc|apply Xn.ok|exact Xn.exc|apply Xo.ok|exact Xo.exc|apply Xp.ok|exact Xp.exc|apply Xq.ok|exact Xq.exc|apply Xr.ok|exact Xr.exc|apply Xs.ok|exact Xs.exc|apply Xu.ok|exact Xu.exc|apply Xv.ok|exact Xv.exc|apply Xw.ok|exact Xw.exc|apply Xx.ok|exact Xx.exc|apply Xy.ok|exact Xy.exc|apply Xz.ok|exact Xz.exc|apply XA.ok|exact XA.exc|apply XB.ok|exact XB.exc|apply XC.ok|exact XC.exc|apply XD.ok|exact XD.exc|apply XE.ok|exact XE.exc|apply XF.ok|exact XF.exc|apply XG.ok|exact XG.exc|apply XH.ok|exact XH.exc|apply XI.ok|exact XI.exc|exact XJ.t|exact XJ.f|exact XJ.exc|apply XK.t|exact XK.f|exact XK.exc|exact XM.t|apply XM.f|exact XM.exc|apply XN.t|exact XN.f|apply XO.andT|exact XO.andF|apply XO.orF|exact XO.orT|apply XQ.next|exact XQ.ret|exact XQ.exc|exact XQ.cont|exact XQ.brk|apply XR.t|apply XR.f|exact XR.exc|exact XS.ok|apply XS.exc|exact XT|apply XU|apply XV.next|exact XV.ret|exact XV.exc|exact XW|exact XX)|exact XY rfl|apply XZ rfl Qa|apply XZ rfl Qb|exact (rfl : listFree _ = true)|exact X0 rfl|apply X1 rfl|exact X2 rfl|exact X3 rfl|exact (rfl : (_ : Option _) = some _)|decide)
        · have : cs.all (· ∈ sg) = false := by rw [h2, List.all_append, List.all_cons, decide_eq_false hc]; simp
          show if _ then _ else _
          rw [this, if_neg (by decide)]; exact ⟨_, rfl⟩
theorem isStr_eq (K : Frag) (d : D) (h : calm d = true) : isInstI K [d, .glob (.type "str")] = some (.sh (.bool (match d with | .str _ => true | _ => false))) := by
  cases d with
  | range _ _ _ => cases h
  | exc _ => cases h
  | glob _ => cases h
  | none => kernel_rfl
  | bool b => kernel_rfl
  | int i => kernel_rfl
  | str x => kernel_rfl
  | tup ds => kernel_rfl
  | list ds => kernel_rfl
theorem F_places_of_other (K : Frag) (d : D) (hc : calm d = true) (h : ∀ x, d ≠ .str x) : F_places_of K [d] = .exc 109 := by
  have e := isStr_eq K d hc
  have e' : isInstI K [d, .glob (.type "str")] = some (.sh (.bool false)) := by
    rw [e]
    cases d <;> first | rfl | exact absurd rfl (h _)
  clear e
  unfold F_places_of f_places_of
  refine' run_of [some (.sh d), none, none] rfl rfl ?_ fin_exc
  repeat' (first|(with_reducible first|assumption|exact Qa|exact Qb|exact Qc|apply Qd|exact Qe|apply Qf|exact Qg|apply Qh|exact Qi|apply Qj|exact Qk|apply Ql|apply Qm|exact Qn|exact Qo|apply Qp|exact Qq|exact Qr|apply Qs|exact Qt|exact Qu|exact Qv|exact Qw|exact Qx|exact Qy|exact Qz|apply QA|apply QB|apply QC|apply QD|apply QE|apply QF|apply QG|apply QH|apply QI|apply QJ|apply QK|apply QL|apply QM|apply QN|apply QO|apply QP|apply QQ|apply QR|apply QS|apply QT|apply QU|apply QV|apply QW|apply QX|apply QY|apply QZ|apply Q0|apply Q1|apply Q2|apply Q3|apply Q4|apply Q5|apply Q6|apply Q7|apply Q8|apply Q9|apply Xa|apply Xb|apply Xc|apply Xd|apply Xe|apply Xf|apply Xg|apply Xh|apply Xi|exact Xj|apply Xk.ok|exact Xk.exc|apply Xl.ok|exact Xl.exc|apply Xm.ok|exact Xm.exc|apply Xn.ok|exact Xn.exc|apply Xo.ok|exact Xo.exc|apply Xp.ok|exact Xp.exc|apply Xq.ok|exact Xq.exc|apply Xr.ok|exact Xr.exc|apply Xs.ok|exact Xs.exc|apply Xu.ok|exact Xu.exc|apply Xv.ok|exact Xv.exc|apply Xw.ok|exact Xw.exc|apply Xx.ok|exact Xx.exc|apply Xy.ok|exact Xy.exc|apply Xz.ok|exact Xz.exc|apply XA.ok|exact XA.exc|apply XB.ok|exact XB.exc|apply XC.ok|exact XC.exc|apply XD.ok|exact XD.exc|apply XE.ok|exact XE.exc|apply XF.ok|exact XF.exc|apply XG.ok|exact XG.exc|apply XH.ok|exact XH.exc|apply XI.ok|exact XI.exc|exact XJ.t|exact XJ.f|exact XJ.exc|apply XK.t|exact XK.f|exact XK.exc|exact XM.t|apply XM.f|exact XM.exc|apply XN.t|exact XN.f|apply XO.andT|exact XO.andF|apply XO.orF|exact XO.orT|apply XQ.next|exact XQ.ret|exact XQ.exc|exact XQ.cont|exact XQ.brk|apply XR.t|apply XR.f|exact XR.exc|exact XS.ok|apply XS.exc|exact XT|apply XU|apply XV.next|exact XV.ret|exact XV.exc|exact XW|exact XX)|exact XY rfl|apply XZ rfl Qa|apply XZ rfl Qb|exact (rfl : listFree _ = true)|exact X0 rfl|apply X1 rfl|exact X2 rfl|exact X3 rfl|exact (rfl : (_ : Option _) = some _)|decide)
theorem F_places_of_txt (K : Frag) {cs : List Nat} (hl : cs.length ≤ 1000) : F_places_of K [.str (txt cs)] = if cs.all (· ∈ sg) then .ok (.ow true (.list (iL (cs.map idxOf)))) else .exc 109 := by
  have e1 : isInstI K [.str (txt cs), .glob (.type "str")] = some (.sh (.bool true)) := isStr_eq K (.str (txt cs)) rfl
  obtain ⟨r, h1, h2⟩ := places_loop' K (dt := .str (txt cs)) hl
  rw [← signsD_txt] at h1
  cases ha : cs.all (· ∈ sg) with
  | true =>
    rw [ha, if_pos rfl] at h2
    obtain ⟨v, rfl⟩ := h2
    rw [if_pos rfl]
    unfold F_places_of f_places_of
    refine' run_of [some (.sh (.str (txt cs))), none, none] rfl rfl ?_ fin_ret
    repeat' (first|(with_reducible first|assumption|exact Qa|exact Qb|exact Qc|apply Qd|exact Qe|apply Qf|exact Qg|apply Qh|exact Qi|apply Qj|exact Qk|apply Ql|apply Qm|exact Qn|exact Qo|apply Qp|exact Qq|exact Qr|apply Qs|exact Qt|exact Qu|exact Qv|exact Qw|exact Qx|exact Qy|exact Qz|apply QA|apply QB|apply QC|apply QD|apply QE|apply QF|apply QG|apply QH|apply QI|apply QJ|apply QK|apply QL|apply QM|apply QN|apply QO|apply QP|apply QQ|apply QR|apply QS|apply QT|apply QU|apply QV|apply QW|apply QX|apply QY|apply QZ|apply Q0|apply Q1|apply Q2|apply Q3|apply Q4|apply Q5|apply Q6|apply Q7|apply Q8|apply Q9|apply Xa|apply Xb|apply Xc|apply Xd|apply Xe|apply Xf|apply Xg|apply Xh|apply Xi|exact Xj|apply Xk.ok|exact Xk.exc|apply Xl.ok|exact Xl.exc|apply Xm.ok|exact Xm.exc|apply Xn.ok|exact Xn.exc|apply Xo.ok|exact Xo.exc|apply Xp.ok|exact Xp.exc|apply Xq.ok|exact Xq.exc|apply Xr.ok|exact Xr.exc|apply Xs.ok|exact Xs.exc|apply Xu.ok|exact Xu.exc|apply Xv.ok|exact Xv.exc|apply Xw.ok|exact Xw.exc|apply Xx.ok|exact Xx.exc|apply Xy.ok|exact Xy.exc|apply Xz.ok|exact Xz.exc|apply XA.ok|exact XA.exc|apply XB.ok|exact XB.exc|apply XC.ok|exact XC.exc|apply XD.ok|exact XD.exc|apply XE.ok|exact XE.exc|apply XF.ok|exact XF.exc|apply XG.ok|exact XG.exc|apply XH.ok|exact XH.exc|apply XI.ok|exact XI.exc|exact XJ.t|exact XJ.f|exact XJ.exc|apply XK.t|exact XK.f|exact XK.exc|exact XM.t|apply XM.f|exact XM.exc|apply XN.t|exact XN.f|apply XO.andT|exact XO.andF|apply XO.orF|exact XO.orT|apply XQ.next|exact XQ.ret|exact XQ.exc|exact XQ.cont|exact XQ.brk|apply XR.t|apply XR.f|exact XR.exc|exact XS.ok|apply XS.exc|exact XT|apply XU|apply XV.next|exact XV.ret|exact XV.exc|exact XW|exact XX)|exact XY rfl|apply XZ rfl Qa|apply XZ rfl Qb|exact (rfl : listFree _ = true)|exact X0 rfl|apply X1 rfl|exact X2 rfl|exact X3 rfl|exact (rfl : (_ : Option _) = some _)|decide)
  | false =>
    rw [ha, if_neg (by decide)] at h2
    obtain ⟨ρ, rfl⟩ := h2
    rw [if_neg (by decide)]
    unfold F_places_of f_places_of
    refine' run_of [some (.sh (.str (txt cs))), none, none] rfl rfl ?_ fin_exc
    repeat' (first|(with_reducible first|assumption|exact Qa|exact Qb|exact Qc|apply Qd|exact Qe|apply Qf|exact Qg|apply Qh|exact Qi|apply Qj|exact Qk|apply Ql|apply Qm|exact Qn|exact Qo|apply Qp|exact Qq|exact Qr|apply Qs|exact Qt|exact Qu|exact Qv|exact Qw|exact Qx|exact Qy|exact Qz|apply QA|apply QB|apply QC|apply QD|apply QE|apply QF|apply QG|apply QH|apply QI|apply QJ|apply QK|apply QL|apply QM|apply QN|apply QO|apply QP|apply QQ|apply QR|apply QS|apply QT|apply QU|apply QV|apply QW|apply QX|apply QY|apply QZ|apply Q0|apply Q1|apply Q2|apply Q3|apply Q4|apply Q5|apply Q6|apply Q7|apply Q8|apply Q9|apply Xa|apply Xb|apply Xc|apply Xd|apply Xe|apply Xf|apply Xg|apply Xh|apply Xi|exact Xj|apply Xk.ok|exact Xk.exc|apply Xl.ok|exact Xl.exc|apply Xm.ok|exact Xm.exc|apply Xn.ok|exact Xn.exc|apply Xo.ok|exact Xo.exc|apply Xp.ok|exact Xp.exc|apply Xq.ok|exact Xq.exc|apply Xr.ok|exact Xr.exc|apply Xs.ok|exact Xs.exc|apply Xu.ok|exact Xu.exc|apply Xv.ok|exact Xv.exc|apply Xw.ok|exact Xw.exc|apply Xx.ok|exact Xx.exc|apply Xy.ok|exact Xy.exc|apply Xz.ok|exact Xz.exc|apply XA.ok|exact XA.exc|apply XB.ok|exact XB.exc|apply XC.ok|exact XC.exc|apply XD.ok|exact XD.exc|apply XE.ok|exact XE.exc|apply XF.ok|exact XF.exc|apply XG.ok|exact XG.exc|apply XH.ok|exact XH.exc|apply XI.ok|exact XI.exc|exact XJ.t|exact XJ.f|exact XJ.exc|apply XK.t|exact XK.f|exact XK.exc|exact XM.t|apply XM.f|exact XM.exc|apply XN.t|exact XN.f|apply XO.andT|exact XO.andF|apply XO.orF|exact XO.orT|apply XQ.next|exact XQ.ret|exact XQ.exc|exact XQ.cont|exact XQ.brk|apply XR.t|apply XR.f|exact XR.exc|exact XS.ok|apply XS.exc|exact XT|apply XU|apply XV.next|exact XV.ret|exact XV.exc|exact XW|exact XX)|exact XY rfl|apply XZ rfl Qa|apply XZ rfl Qb|exact (rfl : listFree _ = true)|exact X0 rfl|apply X1 rfl|exact X2 rfl|exact X3 rfl|exact (rfl : (_ : Option _) = some _)|decide)
end Mine
end

section
set_option Elab.async false
set_option maxRecDepth 100000
set_option maxHeartbeats 4000000
set_option linter.unusedSimpArgs false
set_option linter.unusedVariables false
namespace Mine
open PySem PySem.W
theorem toPys_sgn (cs : List Nat) : toPys ((cs.map sgn).map .str) = some ((cs.map sgn).map .str) := by
  induction cs with
  | nil => rfl
  | cons c cs ih => rw [List.map_cons, List.map_cons, toPys, ih, toPy]; rfl
theorem canLay_sgn : ∀ {cs : List Nat}, (∀ c ∈ cs, c < 128) → PyData.canLayAll0 ((cs.map sgn).map .str) = true
  | [], _ => by simp [PyData.canLayAll0]
  | c :: cs, h => by
    have h1 : PyData.strOk (sgn c) = true := strOk_txt (cs := [c]) fun d hd => by rw [List.mem_singleton.mp hd]; exact h c (.head _)
    simp only [List.map_cons, PyData.canLayAll0, PyData.canLay0, h1, canLay_sgn fun d hd => h d (.tail _ hd), Bool.and_self]
theorem depth_sgn : ∀ (cs : List Nat), PyData.depthAll ((cs.map sgn).map .str) ≤ 1
  | [] => by simp [PyData.depthAll]
  | c :: cs => by
    have := depth_sgn cs
    simp only [List.map_cons, PyData.depthAll, PyData.depth]; omega
theorem eqv_sgn : ∀ (a b : List Nat), PyData.eqvAll ((a.map sgn).map .str) ((b.map sgn).map .str) = decide (a = b)
  | [], [] => by simp [PyData.eqvAll]
  | [], _ :: _ => by simp [PyData.eqvAll]
  | _ :: _, [] => by simp [PyData.eqvAll]
  | x :: a, y :: b => by
    have e : (sgn x == sgn y) = decide (x = y) := by
      by_cases h : x = y
      · subst h; simp
      · have : sgn x ≠ sgn y := fun q => h (by unfold sgn at q; injection q with q; simpa using q)
        simp [h, this]
    simp only [List.map_cons, PyData.eqvAll, PyData.eqv, eqv_sgn a b]
    first | (rw [e]; by_cases h1 : x = y <;> by_cases h2 : a = b <;> simp [h1, h2]) | (by_cases h1 : x = y <;> by_cases h2 : a = b <;> simp [h1, h2, sgn])
theorem neI_sgns {a b : List Nat} (ha : ∀ c ∈ a, c < 128) (hb : ∀ c ∈ b, c < 128) : neI (.list ((a.map sgn).map .str)) (.list ((b.map sgn).map .str)) = some (.sh (.bool !(decide (a = b)))) := by
  have d1 := depth_sgn a
  have d2 := depth_sgn b
  have s1 : SeqAt.shaped (.list ((a.map sgn).map .str)) = true := by
    unfold SeqAt.shaped
    rw [PyData.canLay0, canLay_sgn ha, PyData.depth]
    simp only [Bool.true_and, decide_eq_true_eq]; omega
  have s2 : SeqAt.shaped (.list ((b.map sgn).map .str)) = true := by
    unfold SeqAt.shaped
    rw [PyData.canLay0, canLay_sgn hb, PyData.depth]
    simp only [Bool.true_and, decide_eq_true_eq]; omega
  have p1 : toPy (.list ((a.map sgn).map .str)) = some (.list ((a.map sgn).map .str)) := by rw [toPy, toPys_sgn]; rfl
  have p2 : toPy (.list ((b.map sgn).map .str)) = some (.list ((b.map sgn).map .str)) := by rw [toPy, toPys_sgn]; rfl
  unfold neI eqD
  rw [p1, p2]
  simp only [s1, s2, Bool.and_self, if_true]
  rw [PyData.eqv, eqv_sgn]; rfl
noncomputable def okRow (cs : List Nat) : Prop := (∀ c ∈ cs, c ∈ sg) ∧ 3 ≤ cs.length ∧ cs.length ≤ 12 ∧ (cs.map idxOf).Perm (rng cs.length)
theorem okRow_row {cs : List Nat} (h : okRow cs) : Row cs.length (cs.map idxOf) := ⟨h.2.2.2, h.2.1, h.2.2.1⟩
theorem all_sg {cs : List Nat} : cs.all (· ∈ sg) = true ↔ ∀ c ∈ cs, c ∈ sg := by simp [List.all_eq_true]
theorem F_row_of_ok (K : Frag) {cs : List Nat} (h : okRow cs) : F_row_of K [.str (txt cs)] = .ok (.sh (.tup (iL (cs.map idxOf)))) := by
  have hl : cs.length ≤ 1000 := by have := h.2.2.1; omega
  have e1 := F_places_of_txt K hl
  rw [all_sg.mpr h.1, if_pos rfl] at e1
  have e2 := tuple_list (ds := iL (cs.map idxOf)) (by rw [iL_length, List.length_map]; omega)
  have e3 := F_is_row_row K (okRow_row h)
  unfold F_row_of f_row_of
  refine' run_of [some (.sh (.str (txt cs))), none] rfl rfl ?_ fin_ret
  repeat' (first|(with_reducible first|assumption|exact Qa|exact Qb|exact Qc|apply Qd|exact Qe|apply Qf|exact Qg|apply Qh|exact Qi|apply Qj|exact Qk|apply Ql|apply Qm|exact Qn|exact Qo|apply Qp|exact Qq|exact Qr|apply Qs|exact Qt|exact Qu|exact Qv|exact Qw|exact Qx|exact Qy|exact Qz|apply QA|apply QB|apply QC|apply QD|apply QE|apply QF|apply QG|apply QH|apply QI|apply QJ|apply QK|apply QL|apply QM|apply QN|apply QO|apply QP|apply QQ|apply QR|apply QS|apply QT|apply QU|apply QV|apply QW|apply QX|apply QY|apply QZ|apply Q0|apply Q1|apply Q2|apply Q3|apply Q4|apply Q5|apply Q6|apply Q7|apply Q8|apply Q9|apply Xa|apply Xb|apply Xc|apply Xd|apply Xe|apply Xf|apply Xg|apply Xh|apply Xi|exact Xj|apply Xk.ok|exact Xk.exc|apply Xl.ok|exact Xl.exc|apply Xm.ok|exact Xm.exc|apply Xn.ok|exact Xn.exc|apply Xo.ok|exact Xo.exc|apply Xp.ok|exact Xp.exc|apply Xq.ok|exact Xq.exc|apply Xr.ok|exact Xr.exc|apply Xs.ok|exact Xs.exc|apply Xu.ok|exact Xu.exc|apply Xv.ok|exact Xv.exc|apply Xw.ok|exact Xw.exc|apply Xx.ok|exact Xx.exc|apply Xy.ok|exact Xy.exc|apply Xz.ok|exact Xz.exc|apply XA.ok|exact XA.exc|apply XB.ok|exact XB.exc|apply XC.ok|exact XC.exc|apply XD.ok|exact XD.exc|apply XE.ok|exact XE.exc|apply XF.ok|exact XF.exc|apply XG.ok|exact XG.exc|apply XH.ok|exact XH.exc|apply XI.ok|exact XI.exc|exact XJ.t|exact XJ.f|exact XJ.exc|apply XK.t|exact XK.f|exact XK.exc|exact XM.t|apply XM.f|exact XM.exc|apply XN.t|exact XN.f|apply XO.andT|exact XO.andF|apply XO.orF|exact XO.orT|apply XQ.next|exact XQ.ret|exact XQ.exc|exact XQ.cont|exact XQ.brk|apply XR.t|apply XR.f|exact XR.exc|exact XS.ok|apply XS.exc|exact XT|apply XU|apply XV.next|exact XV.ret|exact XV.exc|exact XW|exact XX)|exact XY rfl|apply XZ rfl Qa|apply XZ rfl Qb|exact (rfl : listFree _ = true)|exact X0 rfl|apply X1 rfl|exact X2 rfl|exact X3 rfl|exact (rfl : (_ : Option _) = some _)|decide)
theorem F_row_of_bad (K : Frag) {cs : List Nat} (hl : cs.length ≤ 1000) (h : ¬ okRow cs) : F_row_of K [.str (txt cs)] = .exc 109 := by
  have e1 := F_places_of_txt K hl
  unfold F_row_of f_row_of
  cases ha : cs.all (· ∈ sg) with
  | false =>
    rw [ha, if_neg (by decide)] at e1
    refine' run_of [some (.sh (.str (txt cs))), none] rfl rfl ?_ fin_exc
    repeat' (first|(with_reducible first|assumption|exact Qa|exact Qb|exact Qc|apply Qd|exact Qe|apply Qf|exact Qg|apply Qh|exact Qi|apply Qj|exact Qk|apply Ql|apply Qm|exact Qn|exact Qo|apply Qp|exact Qq|exact Qr|apply Qs|exact Qt|exact Qu|exact Qv|exact Qw|exact Qx|exact Qy|exact Qz|apply QA|apply QB|apply QC|apply QD|apply QE|apply QF|apply QG|apply QH|apply QI|apply QJ|apply QK|apply QL|apply QM|apply QN|apply QO|apply QP|apply QQ|apply QR|apply QS|apply QT|apply QU|apply QV|apply QW|apply QX|apply QY|apply QZ|apply Q0|apply Q1|apply Q2|apply Q3|apply Q4|apply Q5|apply Q6|apply Q7|apply Q8|apply Q9|apply Xa|apply Xb|apply Xc|apply Xd|apply Xe|apply Xf|apply Xg|apply Xh|apply Xi|exact Xj|apply Xk.ok|exact Xk.exc|apply Xl.ok|exact Xl.exc|apply Xm.ok|exact Xm.exc|apply Xn.ok|exact Xn.exc|apply Xo.ok|exact Xo.exc|apply Xp.ok|exact Xp.exc|apply Xq.ok|exact Xq.exc|apply Xr.ok|exact Xr.exc|apply Xs.ok|exact Xs.exc|apply Xu.ok|exact Xu.exc|apply Xv.ok|exact Xv.exc|apply Xw.ok|exact Xw.exc|apply Xx.ok|exact Xx.exc|apply Xy.ok|exact Xy.exc|apply Xz.ok|exact Xz.exc|apply XA.ok|exact XA.exc|apply XB.ok|exact XB.exc|apply XC.ok|exact XC.exc|apply XD.ok|exact XD.exc|apply XE.ok|exact XE.exc|apply XF.ok|exact XF.exc|apply XG.ok|exact XG.exc|apply XH.ok|exact XH.exc|apply XI.ok|exact XI.exc|exact XJ.t|exact XJ.f|exact XJ.exc|apply XK.t|exact XK.f|exact XK.exc|exact XM.t|apply XM.f|exact XM.exc|apply XN.t|exact XN.f|apply XO.andT|exact XO.andF|apply XO.orF|exact XO.orT|apply XQ.next|exact XQ.ret|exact XQ.exc|exact XQ.cont|exact XQ.brk|apply XR.t|apply XR.f|exact XR.exc|exact XS.ok|apply XS.exc|exact XT|apply XU|apply XV.next|exact XV.ret|exact XV.exc|exact XW|exact XX)|exact XY rfl|apply XZ rfl Qa|apply XZ rfl Qb|exact (rfl : listFree _ = true)|exact X0 rfl|apply X1 rfl|exact X2 rfl|exact X3 rfl|exact (rfl : (_ : Option _) = some _)|decide)
  | true =>
    rw [ha, if_pos rfl] at e1
    have hs := all_sg.mp ha
    have e2 := tuple_list (ds := iL (cs.map idxOf)) (by rw [iL_length, List.length_map]; omega)
    have e3 : F_is_row K [.tup (iL (cs.map idxOf))] = .ok (.sh (.bool false)) := by
      by_cases h3 : 3 ≤ cs.length ∧ cs.length ≤ 12
      · refine F_is_row_bad K _ (by rw [List.length_map]; exact h3.1) (by rw [List.length_map]; exact h3.2) fun q => h ⟨hs, h3.1, h3.2, by rwa [List.length_map] at q⟩
      · exact F_is_row_len K _ (by rw [iL_length, List.length_map]; omega) (by rw [iL_length, List.length_map]; exact h3)
    refine' run_of [some (.sh (.str (txt cs))), none] rfl rfl ?_ fin_exc
    repeat' (first|(with_reducible first|assumption|exact Qa|exact Qb|exact Qc|apply Qd|exact Qe|apply Qf|exact Qg|apply Qh|exact Qi|apply Qj|exact Qk|apply Ql|apply Qm|exact Qn|exact Qo|apply Qp|exact Qq|exact Qr|apply Qs|exact Qt|exact Qu|exact Qv|exact Qw|exact Qx|exact Qy|exact Qz|apply QA|apply QB|apply QC|apply QD|apply QE|apply QF|apply QG|apply QH|apply QI|apply QJ|apply QK|apply QL|apply QM|apply QN|apply QO|apply QP|apply QQ|apply QR|apply QS|apply QT|apply QU|apply QV|apply QW|apply QX|apply QY|apply QZ|apply Q0|apply Q1|apply Q2|apply Q3|apply Q4|apply Q5|apply Q6|apply Q7|apply Q8|apply Q9|apply Xa|apply Xb|apply Xc|apply Xd|apply Xe|apply Xf|apply Xg|apply Xh|apply Xi|exact Xj|apply Xk.ok|exact Xk.exc|apply Xl.ok|exact Xl.exc|apply Xm.ok|exact Xm.exc|apply Xn.ok|exact Xn.exc|apply Xo.ok|exact Xo.exc|apply Xp.ok|exact Xp.exc|apply Xq.ok|exact Xq.exc|apply Xr.ok|exact Xr.exc|apply Xs.ok|exact Xs.exc|apply Xu.ok|exact Xu.exc|apply Xv.ok|exact Xv.exc|apply Xw.ok|exact Xw.exc|apply Xx.ok|exact Xx.exc|apply Xy.ok|exact Xy.exc|apply Xz.ok|exact Xz.exc|apply XA.ok|exact XA.exc|apply XB.ok|exact XB.exc|apply XC.ok|exact XC.exc|apply XD.ok|exact XD.exc|apply XE.ok|exact XE.exc|apply XF.ok|exact XF.exc|apply XG.ok|exact XG.exc|apply XH.ok|exact XH.exc|apply XI.ok|exact XI.exc|exact XJ.t|exact XJ.f|exact XJ.exc|apply XK.t|exact XK.f|exact XK.exc|exact XM.t|apply XM.f|exact XM.exc|apply XN.t|exact XN.f|apply XO.andT|exact XO.andF|apply XO.orF|exact XO.orT|apply XQ.next|exact XQ.ret|exact XQ.exc|exact XQ.cont|exact XQ.brk|apply XR.t|apply XR.f|exact XR.exc|exact XS.ok|apply XS.exc|exact XT|apply XU|apply XV.next|exact XV.ret|exact XV.exc|exact XW|exact XX)|exact XY rfl|apply XZ rfl Qa|apply XZ rfl Qb|exact (rfl : listFree _ = true)|exact X0 rfl|apply X1 rfl|exact X2 rfl|exact X3 rfl|exact (rfl : (_ : Option _) = some _)|decide)
theorem F_row_of_other (K : Frag) (d : D) (hc : calm d = true) (h : ∀ x, d ≠ .str x) : F_row_of K [d] = .exc 109 := by
  have e1 := F_places_of_other K d hc h
  unfold F_row_of f_row_of
  refine' run_of [some (.sh d), none] rfl rfl ?_ fin_exc
  repeat' (first|(with_reducible first|assumption|exact Qa|exact Qb|exact Qc|apply Qd|exact Qe|apply Qf|exact Qg|apply Qh|exact Qi|apply Qj|exact Qk|apply Ql|apply Qm|exact Qn|exact Qo|apply Qp|exact Qq|exact Qr|apply Qs|exact Qt|exact Qu|exact Qv|exact Qw|exact Qx|exact Qy|exact Qz|apply QA|apply QB|apply QC|apply QD|apply QE|apply QF|apply QG|apply QH|apply QI|apply QJ|apply QK|apply QL|apply QM|apply QN|apply QO|apply QP|apply QQ|apply QR|apply QS|apply QT|apply QU|apply QV|apply QW|apply QX|apply QY|apply QZ|apply Q0|apply Q1|apply Q2|apply Q3|apply Q4|apply Q5|apply Q6|apply Q7|apply Q8|apply Q9|apply Xa|apply Xb|apply Xc|apply Xd|apply Xe|apply Xf|apply Xg|apply Xh|apply Xi|exact Xj|apply Xk.ok|exact Xk.exc|apply Xl.ok|exact Xl.exc|apply Xm.ok|exact Xm.exc|apply Xn.ok|exact Xn.exc|apply Xo.ok|exact Xo.exc|apply Xp.ok|exact Xp.exc|apply Xq.ok|exact Xq.exc|apply Xr.ok|exact Xr.exc|apply Xs.ok|exact Xs.exc|apply Xu.ok|exact Xu.exc|apply Xv.ok|exact Xv.exc|apply Xw.ok|exact Xw.exc|apply Xx.ok|exact Xx.exc|apply Xy.ok|exact Xy.exc|apply Xz.ok|exact Xz.exc|apply XA.ok|exact XA.exc|apply XB.ok|exact XB.exc|apply XC.ok|exact XC.exc|apply XD.ok|exact XD.exc|apply XE.ok|exact XE.exc|apply XF.ok|exact XF.exc|apply XG.ok|exact XG.exc|apply XH.ok|exact XH.exc|apply XI.ok|exact XI.exc|exact XJ.t|exact XJ.f|exact XJ.exc|apply XK.t|exact XK.f|exact XK.exc|exact XM.t|apply XM.f|exact XM.exc|apply XN.t|exact XN.f|apply XO.andT|exact XO.andF|apply XO.orF|exact XO.orT|apply XQ.next|exact XQ.ret|exact XQ.exc|exact XQ.cont|exact XQ.brk|apply XR.t|apply XR.f|exact XR.exc|exact XS.ok|apply XS.exc|exact XT|apply XU|apply XV.next|exact XV.ret|exact XV.exc|exact XW|exact XX)|exact XY rfl|apply XZ rfl Qa|apply XZ rfl Qb|exact (rfl : listFree _ = true)|exact X0 rfl|apply X1 rfl|exact X2 rfl|exact X3 rfl|exact (rfl : (_ : Option _) = some _)|decide)
theorem sg_take (n : Nat) (h : n ≤ 12) : (rng n).map sgAt = sg.take n := by
  apply List.ext_getElem?
  intro i
  unfold rng
  rw [List.map_map, List.getElem?_map]
  by_cases hi : i < n
  · rw [List.getElem?_range hi, List.getElem?_take_of_lt hi, sg_get (by omega)]
    show some (sgAt (i : Int)) = _
    unfold sgAt; rw [Int.toNat_natCast]
  · rw [List.getElem?_eq_none (by rw [List.length_range]; omega), List.getElem?_eq_none (by rw [List.length_take]; omega)]; rfl
theorem sortN_perm (ns : List Nat) : (sortN ns).Perm ns := List.mergeSort_perm ns _
theorem sortN_eq {a b : List Nat} : sortN a = sortN b ↔ a.Perm b := by
  constructor
  · intro h
    exact (sortN_perm a).symm.trans ((List.Perm.of_eq h).trans (sortN_perm b))
  · intro h
    have hs : (sortN a).Pairwise (· ≤ ·) := by
      have := List.pairwise_mergeSort (le := fun a b : Nat => decide (a ≤ b)) (fun a b c h1 h2 => by simp at *; omega) (fun a b => by simp; omega) a
      exact this.imp fun h => by simpa using h
    exact sortN_unique ((sortN_perm a).trans h) hs
theorem map_back {cs : List Nat} (h : ∀ c ∈ cs, c ∈ sg) : (cs.map idxOf).map sgAt = cs := by
  rw [List.map_map]
  have : ∀ c ∈ cs, (sgAt ∘ idxOf) c = id c := fun c hc => sgAt_idxOf (h c hc)
  rw [List.map_congr_left this, List.map_id]
theorem map_forth {ns : List Int} (h : ∀ p ∈ ns, 0 ≤ p ∧ p < 12) : (ns.map sgAt).map idxOf = ns := by
  rw [List.map_map]
  have : ∀ p ∈ ns, (idxOf ∘ sgAt) p = id p := fun p hp => idxOf_sgAt (h p hp).1 (h p hp).2
  rw [List.map_congr_left this, List.map_id]
theorem okRow_iff {cs : List Nat} (h3 : 3 ≤ cs.length) (h12 : cs.length ≤ 12) : okRow cs ↔ cs.Perm (sg.take cs.length) := by
  constructor
  · intro h
    have := h.2.2.2.map sgAt
    rwa [map_back h.1, sg_take _ h12] at this
  · intro h
    have hs : ∀ c ∈ cs, c ∈ sg := fun c hc => List.mem_of_mem_take (h.mem_iff.mp hc)
    refine ⟨hs, h3, h12, ?_⟩
    have := h.map idxOf
    rwa [← sg_take _ h12, map_forth fun p hp => by have := mem_rng.mp hp; omega] at this
theorem okRow_text {n : Nat} {a : List Int} (r : Row n a) : okRow (a.map sgAt) := by
  have hl : (a.map sgAt).length = n := by rw [List.length_map, r.len]
  refine ⟨fun c hc => ?_, by rw [hl]; exact r.h3, by rw [hl]; exact r.h12, ?_⟩
  · obtain ⟨p, hp, rfl⟩ := List.mem_map.mp hc
    exact sgAt_mem (row_lt r p hp).1 (row_lt r p hp).2
  · rw [map_forth (row_lt r), hl]; exact r.perm
theorem sg_128 : ∀ c ∈ sg, c < 128 := by decide
theorem F_row_due_other (K : Frag) (d : D) (hc : calm d = true) (h : ∀ x, d ≠ .str x) : F_law_row_due K [d] = .ok (.sh .none) := by
  have e := isStr_eq K d hc
  have e' : isInstI K [d, .glob (.type "str")] = some (.sh (.bool false)) := by
    rw [e]
    cases d <;> first | rfl | exact absurd rfl (h _)
  clear e
  unfold F_law_row_due f_law_row_due
  refine' run_of [some (.sh d), none] rfl rfl ?_ fin_ret
  repeat' (first|(with_reducible first|assumption|exact Qa|exact Qb|exact Qc|apply Qd|exact Qe|apply Qf|exact Qg|apply Qh|exact Qi|apply Qj|exact Qk|apply Ql|apply Qm|exact Qn|exact Qo|apply Qp|exact Qq|exact Qr|apply Qs|exact Qt|exact Qu|exact Qv|exact Qw|exact Qx|exact Qy|exact Qz|apply QA|apply QB|apply QC|apply QD|apply QE|apply QF|apply QG|apply QH|apply QI|apply QJ|apply QK|apply QL|apply QM|apply QN|apply QO|apply QP|apply QQ|apply QR|apply QS|apply QT|apply QU|apply QV|apply QW|apply QX|apply QY|apply QZ|apply Q0|apply Q1|apply Q2|apply Q3|apply Q4|apply Q5|apply Q6|apply Q7|apply Q8|apply Q9|apply Xa|apply Xb|apply Xc|apply Xd|apply Xe|apply Xf|apply Xg|apply Xh|apply Xi|exact Xj|apply Xk.ok|exact Xk.exc|apply Xl.ok|exact Xl.exc|apply Xm.ok|exact Xm.exc|apply Xn.ok|exact Xn.exc|apply Xo.ok|exact Xo.exc|apply Xp.ok|exact Xp.exc|apply Xq.ok|exact Xq.exc|apply Xr.ok|exact Xr.exc|apply Xs.ok|exact Xs.exc|apply Xu.ok|exact Xu.exc|apply Xv.ok|exact Xv.exc|apply Xw.ok|exact Xw.exc|apply Xx.ok|exact Xx.exc|apply Xy.ok|exact Xy.exc|apply Xz.ok|exact Xz.exc|apply XA.ok|exact XA.exc|apply XB.ok|exact XB.exc|apply XC.ok|exact XC.exc|apply XD.ok|exact XD.exc|apply XE.ok|exact XE.exc|apply XF.ok|exact XF.exc|apply XG.ok|exact XG.exc|apply XH.ok|exact XH.exc|apply XI.ok|exact XI.exc|exact XJ.t|exact XJ.f|exact XJ.exc|apply XK.t|exact XK.f|exact XK.exc|exact XM.t|apply XM.f|exact XM.exc|apply XN.t|exact XN.f|apply XO.andT|exact XO.andF|apply XO.orF|exact XO.orT|apply XQ.next|exact XQ.ret|exact XQ.exc|exact XQ.cont|exact XQ.brk|apply XR.t|apply XR.f|exact XR.exc|exact XS.ok|apply XS.exc|exact XT|apply XU|apply XV.next|exact XV.ret|exact XV.exc|exact XW|exact XX)|exact XY rfl|apply XZ rfl Qa|apply XZ rfl Qb|exact (rfl : listFree _ = true)|exact X0 rfl|apply X1 rfl|exact X2 rfl|exact X3 rfl|exact (rfl : (_ : Option _) = some _)|decide)
theorem F_row_due_len (K : Frag) {cs : List Nat} (hl : cs.length ≤ 1000) (h : ¬ (3 ≤ cs.length ∧ cs.length ≤ 12)) : F_law_row_due K [.str (txt cs)] = .ok (.sh .none) := by
  have e1 : isInstI K [.str (txt cs), .glob (.type "str")] = some (.sh (.bool true)) := isStr_eq K (.str (txt cs)) rfl
  have e2 := lenS_txt (a := cs) (by omega)
  unfold F_law_row_due f_law_row_due
  refine' run_of [some (.sh (.str (txt cs))), none] rfl rfl ?_ fin_ret
  by_cases h3 : 3 ≤ cs.length
  · have e3 := leI_t (show (3 : Int) ≤ cs.length by omega)
    have e4 := leI_f (show ¬ ((cs.length : Int) ≤ 12) by omega)
    repeat' (first|(with_reducible first|assumption|exact Qa|exact Qb|exact Qc|apply Qd|exact Qe|apply Qf|exact Qg|apply Qh|exact Qi|apply Qj|exact Qk|apply Ql|apply Qm|exact Qn|exact Qo|apply Qp|exact Qq|exact Qr|apply Qs|exact Qt|exact Qu|exact Qv|exact Qw|exact Qx|exact Qy|exact Qz|apply QA|apply QB|apply QC|apply QD|apply QE|apply QF|apply QG|apply QH|apply QI|apply QJ|apply QK|apply QL|apply QM|apply QN|apply QO|apply QP|apply QQ|apply QR|apply QS|apply QT|apply QU|apply QV|apply QW|apply QX|apply QY|apply QZ|apply Q0|apply Q1|apply Q2|apply Q3|apply Q4|apply Q5|apply Q6|apply Q7|apply Q8|apply Q9|apply Xa|apply Xb|apply Xc|apply Xd|apply Xe|apply Xf|apply Xg|apply Xh|apply Xi|exact Xj|apply Xk.ok|exact Xk.exc|apply Xl.ok|exact Xl.exc|apply Xm.ok|exact Xm.exc|apply Xn.ok|exact Xn.exc|apply Xo.ok|exact Xo.exc|apply Xp.ok|exact Xp.exc|apply Xq.ok|exact Xq.exc|apply Xr.ok|exact Xr.exc|apply Xs.ok|exact Xs.exc|apply Xu.ok|exact Xu.exc|apply Xv.ok|exact Xv.exc|apply Xw.ok|exact Xw.exc|apply Xx.ok|exact Xx.exc|apply Xy.ok|exact Xy.exc|apply Xz.ok|exact Xz.exc|apply XA.ok|exact XA.exc|apply XB.ok|exact XB.exc|apply XC.ok|exact XC.exc|apply XD.ok|exact XD.exc|apply XE.ok|exact XE.exc|apply XF.ok|exact XF.exc|apply XG.ok|exact XG.exc|apply XH.ok|exact XH.exc|apply XI.ok|exact XI.exc|exact XJ.t|exact XJ.f|exact XJ.exc|apply XK.t|exact XK.f|exact XK.exc|exact XM.t|apply XM.f|exact XM.exc|apply XN.t|exact XN.f|apply XO.andT|exact XO.andF|apply XO.orF|exact XO.orT|apply XQ.next|exact XQ.ret|exact XQ.exc|exact XQ.cont|exact XQ.brk|apply XR.t|apply XR.f|exact XR.exc|exact XS.ok|apply XS.exc|exact XT|apply XU|apply XV.next|exact XV.ret|exact XV.exc|exact XW|exact XX)|exact XY rfl|apply XZ rfl Qa|apply XZ rfl Qb|exact (rfl : listFree _ = true)|exact X0 rfl|apply X1 rfl|exact X2 rfl|exact X3 rfl|exact (rfl : (_ : Option _) = some _)|decide)
  · have e3 := leI_f (show ¬ ((3 : Int) ≤ cs.length) by omega)
    repeat' (first|(with_reducible first|assumption|exact Qa|exact Qb|exact Qc|apply Qd|exact Qe|apply Qf|exact Qg|apply Qh|exact Qi|apply Qj|exact Qk|apply Ql|apply Qm|exact Qn|exact Qo|apply Qp|exact Qq|exact Qr|apply Qs|exact Qt|exact Qu|exact Qv|exact Qw|exact Qx|exact Qy|exact Qz|apply QA|apply QB|apply QC|apply QD|apply QE|apply QF|apply QG|apply QH|apply QI|apply QJ|apply QK|apply QL|apply QM|apply QN|apply QO|apply QP|apply QQ|apply QR|apply QS|apply QT|apply QU|apply QV|apply QW|apply QX|apply QY|apply QZ|apply Q0|apply Q1|apply Q2|apply Q3|apply Q4|apply Q5|apply Q6|apply Q7|apply Q8|apply Q9|apply Xa|apply Xb|apply Xc|apply Xd|apply Xe|apply Xf|apply Xg|apply Xh|apply Xi|exact Xj|apply Xk.ok|exact Xk.exc|apply Xl.ok|exact Xl.exc|apply Xm.ok|exact Xm.exc|apply Xn.ok|exact Xn.exc|apply Xo.ok|exact Xo.exc|apply Xp.ok|exact Xp.exc|apply Xq.ok|exact Xq.exc|apply Xr.ok|exact Xr.exc|apply Xs.ok|exact Xs.exc|apply Xu.ok|exact Xu.exc|apply Xv.ok|exact Xv.exc|apply Xw.ok|exact Xw.exc|apply Xx.ok|exact Xx.exc|apply Xy.ok|exact Xy.exc|apply Xz.ok|exact Xz.exc|apply XA.ok|exact XA.exc|apply XB.ok|exact XB.exc|apply XC.ok|exact XC.exc|apply XD.ok|exact XD.exc|apply XE.ok|exact XE.exc|apply XF.ok|exact XF.exc|apply XG.ok|exact XG.exc|apply XH.ok|exact XH.exc|apply XI.ok|exact XI.exc|exact XJ.t|exact XJ.f|exact XJ.exc|apply XK.t|exact XK.f|exact XK.exc|exact XM.t|apply XM.f|exact XM.exc|apply XN.t|exact XN.f|apply XO.andT|exact XO.andF|apply XO.orF|exact XO.orT|apply XQ.next|exact XQ.ret|exact XQ.exc|exact XQ.cont|exact XQ.brk|apply XR.t|apply XR.f|exact XR.exc|exact XS.ok|apply XS.exc|exact XT|apply XU|apply XV.next|exact XV.ret|exact XV.exc|exact XW|exact XX)|exact XY rfl|apply XZ rfl Qa|apply XZ rfl Qb|exact (rfl : listFree _ = true)|exact X0 rfl|apply X1 rfl|exact X2 rfl|exact X3 rfl|exact (rfl : (_ : Option _) = some _)|decide)
theorem F_row_due_txt (K : Frag) {cs : List Nat} (hc : ∀ c ∈ cs, c < 128) (h3 : 3 ≤ cs.length) (h12 : cs.length ≤ 12) : (okRow cs → F_law_row_due K [.str (txt cs)] = .ok (.sh (.tup (iL (cs.map idxOf))))) ∧ (¬ okRow cs → F_law_row_due K [.str (txt cs)] = .ok (.sh .none)) := by
  have e1 : isInstI K [.str (txt cs), .glob (.type "str")] = some (.sh (.bool true)) := isStr_eq K (.str (txt cs)) rfl
  have e2 := lenS_txt (a := cs) (by omega)
  have e3 := leI_t (show (3 : Int) ≤ cs.length by omega)
  have e4 := leI_t (show (cs.length : Int) ≤ 12 by omega)
  have e5 : sliceS (.str "1234567890et") none (some (cs.length : Int)) = some (.sh (.str (txt (sg.take cs.length)))) := by
    rw [signs_txt]; exact sliceS_to (by decide)
  have e6 := sorted_txt (cs := cs) (by omega)
  have e7 := sorted_txt (cs := sg.take cs.length) (by rw [List.length_take]; omega)
  have e8 := neI_sgns (a := sortN cs) (b := sortN (sg.take cs.length)) (fun c h => hc c ((sortN_perm cs).mem_iff.mp h)) (fun c h => sg_128 c (List.mem_of_mem_take ((sortN_perm _).mem_iff.mp h)))
  constructor
  · intro hok
    have hp := (okRow_iff h3 h12).mp hok
    rw [decide_eq_true (sortN_eq.mpr hp), Bool.not_true] at e8
    have e9 : compN (bName 1) eAll (eMeth sidxI (eOp 2) (eConsB (eOp 1) eNilB)) [none, none, some (.sh (.str (txt (sg.take cs.length))))] ((cs.map sgn).map .str) [] = some (iL (cs.map idxOf)) := by
      have := compN_map (b := bName 1) (f := eMeth sidxI (eOp 2) (eConsB (eOp 1) eNilB)) (ρ₀ := [none, none, some (.sh (.str (txt (sg.take cs.length))))]) (g := fun d => match d with | .str x => .int (idxOf (x.cps.toList.headD 0)) | _ => .none) ((cs.map sgn).map .str) (fun d hd => ?_) (by rw [List.length_map, List.length_map]; omega)
      · rw [this]
        unfold iL
        rw [List.map_map, List.map_map, List.map_map]
        rfl
      · obtain ⟨x, hx, rfl⟩ := List.mem_map.mp hd
        obtain ⟨c, hc', rfl⟩ := List.mem_map.mp hx
        have hm := hp.mem_iff.mp hc'
        have hs := List.mem_of_mem_take hm
        have hi : sg.findIdx (· == c) < cs.length := by
          obtain ⟨i, hi, e⟩ := List.mem_iff_getElem.mp hm
          have h1 : sg[i]? = some c := by
            rw [← e, List.getElem_take]
            exact List.getElem?_eq_getElem (by rw [List.length_take] at hi; omega)
          have := nodup_idx sg_nodup (idxOf_get hs) h1
          rw [List.length_take] at hi
          omega
        have q : sidxI [.str (txt (sg.take cs.length)), .str (sgn c)] = some (.sh (.int (idxOf c))) := sidx_sgn (sg_nodup.sublist (List.take_sublist _ _)) (by rw [List.getElem?_take_of_lt hi]; exact idxOf_get hs)
        refine ⟨[none, some (.sh (.str (sgn c))), some (.sh (.str (txt (sg.take cs.length))))], .sh (.int (idxOf c)), [none, some (.sh (.str (sgn c))), some (.sh (.str (txt (sg.take cs.length))))], rfl, ?_, rfl⟩
        repeat' (first|(with_reducible first|assumption|exact Qa|exact Qb|exact Qc|apply Qd|exact Qe|apply Qf|exact Qg|apply Qh|exact Qi|apply Qj|exact Qk|apply Ql|apply Qm|exact Qn|exact Qo|apply Qp|exact Qq|exact Qr|apply Qs|exact Qt|exact Qu|exact Qv|exact Qw|exact Qx|exact Qy|exact Qz|apply QA|apply QB|apply QC|apply QD|apply QE|apply QF|apply QG|apply QH|apply QI|apply QJ|apply QK|apply QL|apply QM|apply QN|apply QO|apply QP|apply QQ|apply QR|apply QS|apply QT|apply QU|apply QV|apply QW|apply QX|apply QY|apply QZ|apply Q0|apply Q1|apply Q2|apply Q3|apply Q4|apply Q5|apply Q6|apply Q7|apply Q8|apply Q9|apply Xa|apply Xb|apply Xc|apply Xd|apply Xe|apply Xf|apply Xg|apply Xh|apply Xi|exact Xj|apply Xk.ok|exact Xk.exc|apply Xl.ok|exact Xl.exc|apply Xm.ok|exact Xm.exc|apply Xn.ok|exact Xn.exc|apply Xo.ok|exact Xo.exc|apply Xp.ok|exact Xp.exc|apply Xq.ok|exact Xq.exc|apply Xr.ok|exact Xr.exc|apply Xs.ok|exact Xs.exc|apply Xu.ok|exact Xu.exc|apply Xv.ok|exact Xv.exc|apply Xw.ok|exact Xw.exc|apply Xx.ok|exact Xx.exc|apply Xy.ok|exact Xy.exc|apply Xz.ok|exact Xz.exc|apply XA.ok|exact XA.exc|apply XB.ok|exact XB.exc|apply XC.ok|exact XC.exc|apply XD.ok|exact XD.exc|apply XE.ok|exact XE.exc|apply XF.ok|exact XF.exc|apply XG.ok|exact XG.exc|apply XH.ok|exact XH.exc|apply XI.ok|exact XI.exc|exact XJ.t|exact XJ.f|exact XJ.exc|apply XK.t|exact XK.f|exact XK.exc|exact XM.t|apply XM.f|exact XM.exc|apply XN.t|exact XN.f|apply XO.andT|exact XO.andF|apply XO.orF|exact XO.orT|apply XQ.next|exact XQ.ret|exact XQ.exc|exact XQ.cont|exact XQ.brk|apply XR.t|apply XR.f|exact XR.exc|exact XS.ok|apply XS.exc|exact XT|apply XU|apply XV.next|exact XV.ret|exact XV.exc|exact XW|exact XX)|exact XY rfl|apply XZ rfl Qa|apply XZ rfl Qb|exact (rfl : listFree _ = true)|exact X0 rfl|apply X1 rfl|exact X2 rfl|exact X3 rfl|exact (rfl : (_ : Option _) = some _)|decide)
    rw [← signsD_txt] at e9
    have e10 := tuple_list (ds := iL (cs.map idxOf)) (by rw [iL_length, List.length_map]; omega)
    unfold F_law_row_due f_law_row_due
    refine' run_of [some (.sh (.str (txt cs))), none] rfl rfl ?_ fin_ret
    repeat' (first|(with_reducible first|assumption|exact Qa|exact Qb|exact Qc|apply Qd|exact Qe|apply Qf|exact Qg|apply Qh|exact Qi|apply Qj|exact Qk|apply Ql|apply Qm|exact Qn|exact Qo|apply Qp|exact Qq|exact Qr|apply Qs|exact Qt|exact Qu|exact Qv|exact Qw|exact Qx|exact Qy|exact Qz|apply QA|apply QB|apply QC|apply QD|apply QE|apply QF|apply QG|apply QH|apply QI|apply QJ|apply QK|apply QL|apply QM|apply QN|apply QO|apply QP|apply QQ|apply QR|apply QS|apply QT|apply QU|apply QV|apply QW|apply QX|apply QY|apply QZ|apply Q0|apply Q1|apply Q2|apply Q3|apply Q4|apply Q5|apply Q6|apply Q7|apply Q8|apply Q9|apply Xa|apply Xb|apply Xc|apply Xd|apply Xe|apply Xf|apply Xg|apply Xh|apply Xi|exact Xj|apply Xk.ok|exact Xk.exc|apply Xl.ok|exact Xl.exc|apply Xm.ok|exact Xm.exc|apply Xn.ok|exact Xn.exc|apply Xo.ok|exact Xo.exc|apply Xp.ok|exact Xp.exc|apply Xq.ok|exact Xq.exc|apply Xr.ok|exact Xr.exc|apply Xs.ok|exact Xs.exc|apply Xu.ok|exact Xu.exc|apply Xv.ok|exact Xv.exc|apply Xw.ok|exact Xw.exc|apply Xx.ok|exact Xx.exc|apply Xy.ok|exact Xy.exc|apply Xz.ok|exact Xz.exc|apply XA.ok|exact XA.exc|apply XB.ok|exact XB.exc|apply XC.ok|exact XC.exc|apply XD.ok|exact XD.exc|apply XE.ok|exact XE.exc|apply XF.ok|exact XF.exc|apply XG.ok|exact XG.exc|apply XH.ok|exact XH.exc|apply XI.ok|exact XI.exc|exact XJ.t|exact XJ.f|exact XJ.exc|apply XK.t|exact XK.f|exact XK.exc|exact XM.t|apply XM.f|exact XM.exc|apply XN.t|exact XN.f|apply XO.andT|exact XO.andF|apply XO.orF|exact XO.orT|apply XQ.next|exact XQ.ret|exact XQ.exc|exact XQ.cont|exact XQ.brk|apply XR.t|apply XR.f|exact XR.exc|exact XS.ok|apply XS.exc|exact XT|apply XU|apply XV.next|exact XV.ret|exact XV.exc|exact XW|exact XX)|exact XY rfl|apply XZ rfl Qa|apply XZ rfl Qb|exact (rfl : listFree _ = true)|exact X0 rfl|apply X1 rfl|exact X2 rfl|exact X3 rfl|exact (rfl : (_ : Option _) = some _)|decide)
  · intro hno
    have hp : ¬ cs.Perm (sg.take cs.length) := fun q => hno ((okRow_iff h3 h12).mpr q)
    rw [decide_eq_false (fun q => hp (sortN_eq.mp q)), Bool.not_false] at e8
    unfold F_law_row_due f_law_row_due
    refine' run_of [some (.sh (.str (txt cs))), none] rfl rfl ?_ fin_ret
    repeat' (first|(with_reducible first|assumption|exact Qa|exact Qb|exact Qc|apply Qd|exact Qe|apply Qf|exact Qg|apply Qh|exact Qi|apply Qj|exact Qk|apply Ql|apply Qm|exact Qn|exact Qo|apply Qp|exact Qq|exact Qr|apply Qs|exact Qt|exact Qu|exact Qv|exact Qw|exact Qx|exact Qy|exact Qz|apply QA|apply QB|apply QC|apply QD|apply QE|apply QF|apply QG|apply QH|apply QI|apply QJ|apply QK|apply QL|apply QM|apply QN|apply QO|apply QP|apply QQ|apply QR|apply QS|apply QT|apply QU|apply QV|apply QW|apply QX|apply QY|apply QZ|apply Q0|apply Q1|apply Q2|apply Q3|apply Q4|apply Q5|apply Q6|apply Q7|apply Q8|apply Q9|apply Xa|apply Xb|apply Xc|apply Xd|apply Xe|apply Xf|apply Xg|apply Xh|apply Xi|exact Xj|apply Xk.ok|exact Xk.exc|apply Xl.ok|exact Xl.exc|apply Xm.ok|exact Xm.exc|apply Xn.ok|exact Xn.exc|apply Xo.ok|exact Xo.exc|apply Xp.ok|exact Xp.exc|apply Xq.ok|exact Xq.exc|apply Xr.ok|exact Xr.exc|apply Xs.ok|exact Xs.exc|apply Xu.ok|exact Xu.exc|apply Xv.ok|exact Xv.exc|apply Xw.ok|exact Xw.exc|apply Xx.ok|exact Xx.exc|apply Xy.ok|exact Xy.exc|apply Xz.ok|exact Xz.exc|apply XA.ok|exact XA.exc|apply XB.ok|exact XB.exc|apply XC.ok|exact XC.exc|apply XD.ok|exact XD.exc|apply XE.ok|exact XE.exc|apply XF.ok|exact XF.exc|apply XG.ok|exact XG.exc|apply XH.ok|exact XH.exc|apply XI.ok|exact XI.exc|exact XJ.t|exact XJ.f|exact XJ.exc|apply XK.t|exact XK.f|exact XK.exc|exact XM.t|apply XM.f|exact XM.exc|apply XN.t|exact XN.f|apply XO.andT|exact XO.andF|apply XO.orF|exact XO.orT|apply XQ.next|exact XQ.ret|exact XQ.exc|exact XQ.cont|exact XQ.brk|apply XR.t|apply XR.f|exact XR.exc|exact XS.ok|apply XS.exc|exact XT|apply XU|apply XV.next|exact XV.ret|exact XV.exc|exact XW|exact XX)|exact XY rfl|apply XZ rfl Qa|apply XZ rfl Qb|exact (rfl : listFree _ = true)|exact X0 rfl|apply X1 rfl|exact X2 rfl|exact X3 rfl|exact (rfl : (_ : Option _) = some _)|decide)
end Mine
end

section
set_option Elab.async false
set_option maxRecDepth 100000
set_option maxHeartbeats 4000000
set_option linter.unusedSimpArgs false
set_option linter.unusedVariables false
namespace Mine
open PySem PySem.W
theorem lfs_nD : ∀ (cs : List Nat), listFrees (nD cs) = true
  | [] => by rw [show nD [] = [] from rfl, listFrees]
  | p :: r => by rw [show nD (p :: r) = .int p :: nD r from rfl, listFrees, lfs_nD r]; simp [listFree]
theorem lf_nD {cs : List Nat} : listFree (.tup (nD cs)) = true := by rw [listFree, lfs_nD]
theorem any_ints (p : Int) : ∀ ns : List Int, (ns.map PyData.int).any (fun q => PyData.eqv q (.int p)) = decide (p ∈ ns)
  | [] => by simp
  | n :: ns => by
    rw [List.map_cons, List.any_cons, any_ints p ns]
    have : PyData.eqv (.int n) (.int p) = decide (n = p) := by
      rw [PyData.eqv]
      by_cases h : n = p <;> simp [h]
    rw [this]
    by_cases h1 : n = p
    · subst h1; simp
    · have : ¬ p = n := fun q => h1 q.symm
      by_cases h2 : p ∈ ns <;> simp [h1, h2, this]
theorem shaped_int (p : Int) : SeqAt.shaped (.int p) = true := by
  unfold SeqAt.shaped; simp [PyData.canLay0, PyData.depth]
theorem has_list (p : Int) (ns : List Int) : hasD (.int p) (.list (iL ns)) = some (decide (p ∈ ns)) := by
  unfold hasD
  simp only [toPys_iL, toPy, shaped_list, shaped_int, Bool.and_self, if_true, any_ints]
theorem has_tup (p : Int) (ns : List Int) : hasD (.int p) (.tup (iL ns)) = some (decide (p ∈ ns)) := by
  unfold hasD
  simp only [toPys_iL, toPy, shaped_tup, shaped_int, Bool.and_self, if_true, any_ints]
noncomputable def cI (cs : List Nat) : List Int := cs.map fun (p : Nat) => (p : Int)
theorem mem_cI {cs : List Nat} {p : Nat} : (p : Int) ∈ cI cs ↔ p ∈ cs := by
  unfold cI
  rw [List.mem_map]
  constructor
  · rintro ⟨q, hq, e⟩
    have : q = p := by omega
    rwa [← this]
  · exact fun h => ⟨p, h, rfl⟩
theorem dec_cI (cs : List Nat) (p : Nat) : decide ((p : Int) ∈ cI cs) = decide (p ∈ cs) := decide_eq_decide.mpr mem_cI
theorem nD_cI (cs : List Nat) : nD cs = iL (cI cs) := nD_iL cs
theorem in_nDl (p : Nat) (cs : List Nat) : inI (.int p) (.list (nD cs)) = some (.sh (.bool (decide (p ∈ cs)))) := by unfold inI; rw [nD_cI, has_list, dec_cI]; rfl
theorem notIn_nDl (p : Nat) (cs : List Nat) : notInI (.int p) (.list (nD cs)) = some (.sh (.bool !(decide (p ∈ cs)))) := by unfold notInI; rw [nD_cI, has_list, dec_cI]; rfl
theorem not_neg {cs : List Nat} : ¬ ((-1 : Int) ∈ cI cs) := by
  unfold cI
  rw [List.mem_map]
  rintro ⟨q, _, e⟩; omega
noncomputable def prevIn (cs : List Nat) : Nat → Bool
  | 0 => false
  | q + 1 => decide (q ∈ cs)
noncomputable def stays (cs : List Nat) (p : Nat) : Bool := !(decide (p ∈ cs)) && !(prevIn cs p)
noncomputable def stayL (n : Nat) (cs : List Nat) : List Nat := (List.range n).filter (stays cs)
noncomputable def moved : List Nat → List Nat
  | [] => []
  | p :: r => p :: (p + 1) :: moved r
theorem mem_moved {cs : List Nat} {k : Nat} : k ∈ moved cs ↔ k ∈ cs ∨ prevIn cs k = true := by
  induction cs with
  | nil => cases k <;> simp [moved, prevIn]
  | cons p r ih =>
    rw [moved, List.mem_cons, List.mem_cons, ih, List.mem_cons]
    cases k with
    | zero => simp [prevIn]
    | succ q =>
      simp only [prevIn, decide_eq_true_eq, List.mem_cons]
      constructor
      · rintro (h | h | h | h)
        · exact .inl (.inl h)
        · exact .inr (.inl (by omega))
        · exact .inl (.inr h)
        · exact .inr (.inr h)
      · rintro ((h | h) | (h | h))
        · exact .inl h
        · exact .inr (.inr (.inl h))
        · exact .inr (.inl (by omega))
        · exact .inr (.inr (.inr h))
theorem stays_moved (cs : List Nat) (k : Nat) : (!(decide (k ∈ moved cs))) = stays cs k := by
  unfold stays
  rw [show decide (k ∈ moved cs) = (decide (k ∈ cs) || prevIn cs k) by
    rw [Bool.eq_iff_iff]
    simp only [decide_eq_true_eq, Bool.or_eq_true]
    exact mem_moved]
  rw [Bool.not_or]
theorem nD_app (a b : List Nat) : nD a ++ nD b = nD (a ++ b) := by unfold nD; rw [List.map_append]
theorem moved_len (cs : List Nat) : (moved cs).length = 2 * cs.length := by
  induction cs with
  | nil => rfl
  | cons p r ih => rw [moved, List.length_cons, List.length_cons, ih, List.length_cons]; omega
theorem moved_app (a : List Nat) (p : Nat) : moved (a ++ [p]) = moved a ++ [p, p + 1] := by
  induction a with
  | nil => rfl
  | cons q r ih => rw [List.cons_append, moved, ih, moved]; rfl
theorem staying_loop (K : Frag) {dn dc : D} {cs : List Nat} (hl : cs.length ≤ 100) : ∃ v, forN (bName 3) (sSeq (sExpr (eVal (eAppend 2 (eVar 3)))) (sSeq (sExpr (eVal (eAppend 2 (eOp2 addS (eOp 3) (eVal (eConst (.int 1))))))) sNil)) (nD cs) [some (.sh dn), some (.sh dc), some (.ow true (.list [])), none] = .ok .next [some (.sh dn), some (.sh dc), some (.ow true (.list (nD (moved cs)))), v] := by
  obtain ⟨ρ', h1, done, rest, v, rfl, h2, h3⟩ := forN_ex (b := bName 3) (sf := (sSeq (sExpr (eVal (eAppend 2 (eVar 3)))) (sSeq (sExpr (eVal (eAppend 2 (eOp2 addS (eOp 3) (eVal (eConst (.int 1))))))) sNil))) (fun ρ ds => ∃ (done rest : List Nat) (v : Option T), ρ = [some (.sh dn), some (.sh dc), some (.ow true (.list (nD (moved done)))), v] ∧ ds = nD rest ∧ cs = done ++ rest) (by
    rintro ρ d ds ⟨done, rest, v, rfl, h2, h3⟩
    cases rest with
    | nil => cases h2
    | cons p rest =>
      cases h2
      have hlen : cs.length = done.length + (p :: rest).length := by rw [h3, List.length_append]
      have l1 : (nD (moved done)).length ≤ 1000000 := by rw [nD_len, moved_len]; omega
      have l2 : (nD (moved done) ++ [D.int p]).length ≤ 1000000 := by rw [List.length_append, nD_len, moved_len]; simp; omega
      refine ⟨[some (.sh dn), some (.sh dc), some (.ow true (.list (nD (moved done)))), some (.sh (.int p))], [some (.sh dn), some (.sh dc), some (.ow true (.list (nD (moved done) ++ [.int p] ++ [.int ((p : Int) + 1)]))), some (.sh (.int p))], rfl, ?_, done ++ [p], rest, some (.sh (.int p)), ?_, rfl, by rw [h3]; simp⟩
      · repeat' (first|(with_reducible first|assumption|exact Qa|exact Qb|exact Qc|apply Qd|exact Qe|apply Qf|exact Qg|apply Qh|exact Qi|apply Qj|exact Qk|apply Ql|apply Qm|exact Qn|exact Qo|apply Qp|exact Qq|exact Qr|apply Qs|exact Qt|exact Qu|exact Qv|exact Qw|exact Qx|exact Qy|exact Qz|apply QA|apply QB|apply QC|apply QD|apply QE|apply QF|apply QG|apply QH|apply QI|apply QJ|apply QK|apply QL|apply QM|apply QN|apply QO|apply QP|apply QQ|apply QR|apply QS|apply QT|apply QU|apply QV|apply QW|apply QX|apply QY|apply QZ|apply Q0|apply Q1|apply Q2|apply Q3|apply Q4|apply Q5|apply Q6|apply Q7|apply Q8|apply Q9|apply Xa|apply Xb|apply Xc|apply Xd|apply Xe|apply Xf|apply Xg|apply Xh|apply Xi|exact Xj|apply Xk.ok|exact Xk.exc|apply Xl.ok|exact Xl.exc|apply Xm.ok|exact Xm.exc|apply Xn.ok|exact Xn.exc|apply Xo.ok|exact Xo.exc|apply Xp.ok|exact Xp.exc|apply Xq.ok|exact Xq.exc|apply Xr.ok|exact Xr.exc|apply Xs.ok|exact Xs.exc|apply Xu.ok|exact Xu.exc|apply Xv.ok|exact Xv.exc|apply Xw.ok|exact Xw.exc|apply Xx.ok|exact Xx.exc|apply Xy.ok|exact Xy.exc|apply Xz.ok|exact Xz.exc|apply XA.ok|exact XA.exc|apply XB.ok|exact XB.exc|apply XC.ok|exact XC.exc|apply XD.ok|exact XD.exc|apply XE.ok|exact XE.exc|apply XF.ok|exact XF.exc|apply XG.ok|exact XG.exc|apply XH.ok|exact XH.exc|apply XI.ok|exact XI.exc|exact XJ.t|exact XJ.f|exact XJ.exc|apply XK.t|exact XK.f|exact XK.exc|exact XM.t|apply XM.f|exact XM.exc|apply XN.t|exact XN.f|apply XO.andT|exact XO.andF|apply XO.orF|exact XO.orT|apply XQ.next|exact XQ.ret|exact XQ.exc|exact XQ.cont|exact XQ.brk|apply XR.t|apply XR.f|exact XR.exc|exact XS.ok|apply XS.exc|exact XT|apply XU|apply XV.next|exact XV.ret|exact XV.exc|exact XW|exact XX)|exact XY rfl|apply XZ rfl Qa|apply XZ rfl Qb|exact (rfl : listFree _ = true)|exact X0 rfl|apply X1 rfl|exact X2 rfl|exact X3 rfl|exact (rfl : (_ : Option _) = some _)|decide)
      · rw [moved_app, ← nD_app, List.append_assoc]
        unfold nD
        simp) (nD cs) _ ⟨[], cs, none, rfl, rfl, rfl⟩
  have : rest = [] := List.map_eq_nil_iff.mp h2.symm
  subst this
  rw [List.append_nil] at h3
  subst h3
  exact ⟨v, h1⟩
theorem rng_nD (n : Nat) : iL (rng n) = nD (List.range n) := by unfold iL rng nD; rw [List.map_map]; rfl
theorem F_staying_ok (K : Frag) {n : Nat} {cs : List Nat} (hn : n ≤ 12) (hl : cs.length ≤ 100) : F_staying K [.int n, .tup (nD cs)] = .ok (.ow true (.list (nD (stayL n cs)))) := by
  obtain ⟨v, h1⟩ := staying_loop K (dn := .int n) (dc := .tup (nD cs)) hl
  have e1 : itemsD (.tup (nD cs)) = some (nD cs) := rfl
  have e2 := items_rng n (by omega)
  rw [rng_nD] at e2
  have e3 : compN (bName 1) (eTest2 notInI (eOp 1) (eOp 2)) (eVar 1) [none, none, some (.ow false (.list (nD (moved cs))))] (nD (List.range n)) [] = some (nD (stayL n cs)) := by
    have := compN_step (b := bName 1) (t := eTest2 notInI (eOp 1) (eOp 2)) (f := eVar 1) (ρ₀ := [none, none, some (.ow false (.list (nD (moved cs))))]) (q := fun d => match d with | .int k => stays cs k.toNat | _ => false) (g := fun d => d) (nD (List.range n)) [] (fun d hd => ?_) (by rw [nD_len]; simp; omega)
    · rw [this]
      unfold nD stayL
      rw [List.filter_map, List.map_id', List.nil_append]
      congr 1
    · obtain ⟨k, hk, rfl⟩ := List.mem_map.mp hd
      have e := notIn_nDl k (moved cs)
      rw [stays_moved] at e
      refine ⟨[none, some (.sh (.int k)), some (.ow false (.list (nD (moved cs))))], [none, some (.sh (.int k)), some (.ow false (.list (nD (moved cs))))], rfl, ?_, fun _ => ⟨.sh (.int k), _, rfl, rfl⟩⟩
      show _ = Res.ok (stays cs ((k : Int).toNat)) _
      rw [Int.toNat_natCast]
      repeat' (first|(with_reducible first|assumption|exact Qa|exact Qb|exact Qc|apply Qd|exact Qe|apply Qf|exact Qg|apply Qh|exact Qi|apply Qj|exact Qk|apply Ql|apply Qm|exact Qn|exact Qo|apply Qp|exact Qq|exact Qr|apply Qs|exact Qt|exact Qu|exact Qv|exact Qw|exact Qx|exact Qy|exact Qz|apply QA|apply QB|apply QC|apply QD|apply QE|apply QF|apply QG|apply QH|apply QI|apply QJ|apply QK|apply QL|apply QM|apply QN|apply QO|apply QP|apply QQ|apply QR|apply QS|apply QT|apply QU|apply QV|apply QW|apply QX|apply QY|apply QZ|apply Q0|apply Q1|apply Q2|apply Q3|apply Q4|apply Q5|apply Q6|apply Q7|apply Q8|apply Q9|apply Xa|apply Xb|apply Xc|apply Xd|apply Xe|apply Xf|apply Xg|apply Xh|apply Xi|exact Xj|apply Xk.ok|exact Xk.exc|apply Xl.ok|exact Xl.exc|apply Xm.ok|exact Xm.exc|apply Xn.ok|exact Xn.exc|apply Xo.ok|exact Xo.exc|apply Xp.ok|exact Xp.exc|apply Xq.ok|exact Xq.exc|apply Xr.ok|exact Xr.exc|apply Xs.ok|exact Xs.exc|apply Xu.ok|exact Xu.exc|apply Xv.ok|exact Xv.exc|apply Xw.ok|exact Xw.exc|apply Xx.ok|exact Xx.exc|apply Xy.ok|exact Xy.exc|apply Xz.ok|exact Xz.exc|apply XA.ok|exact XA.exc|apply XB.ok|exact XB.exc|apply XC.ok|exact XC.exc|apply XD.ok|exact XD.exc|apply XE.ok|exact XE.exc|apply XF.ok|exact XF.exc|apply XG.ok|exact XG.exc|apply XH.ok|exact XH.exc|apply XI.ok|exact XI.exc|exact XJ.t|exact XJ.f|exact XJ.exc|apply XK.t|exact XK.f|exact XK.exc|exact XM.t|apply XM.f|exact XM.exc|apply XN.t|exact XN.f|apply XO.andT|exact XO.andF|apply XO.orF|exact XO.orT|apply XQ.next|exact XQ.ret|exact XQ.exc|exact XQ.cont|exact XQ.brk|apply XR.t|apply XR.f|exact XR.exc|exact XS.ok|apply XS.exc|exact XT|apply XU|apply XV.next|exact XV.ret|exact XV.exc|exact XW|exact XX)|exact XY rfl|apply XZ rfl Qa|apply XZ rfl Qb|exact (rfl : listFree _ = true)|exact X0 rfl|apply X1 rfl|exact X2 rfl|exact X3 rfl|exact (rfl : (_ : Option _) = some _)|decide)
  unfold F_staying f_staying
  refine' run_of [some (.sh (.int n)), some (.sh (.tup (nD cs))), none, none] rfl rfl ?_ fin_ret
  repeat' (first|(with_reducible first|assumption|exact Qa|exact Qb|exact Qc|apply Qd|exact Qe|apply Qf|exact Qg|apply Qh|exact Qi|apply Qj|exact Qk|apply Ql|apply Qm|exact Qn|exact Qo|apply Qp|exact Qq|exact Qr|apply Qs|exact Qt|exact Qu|exact Qv|exact Qw|exact Qx|exact Qy|exact Qz|apply QA|apply QB|apply QC|apply QD|apply QE|apply QF|apply QG|apply QH|apply QI|apply QJ|apply QK|apply QL|apply QM|apply QN|apply QO|apply QP|apply QQ|apply QR|apply QS|apply QT|apply QU|apply QV|apply QW|apply QX|apply QY|apply QZ|apply Q0|apply Q1|apply Q2|apply Q3|apply Q4|apply Q5|apply Q6|apply Q7|apply Q8|apply Q9|apply Xa|apply Xb|apply Xc|apply Xd|apply Xe|apply Xf|apply Xg|apply Xh|apply Xi|exact Xj|apply Xk.ok|exact Xk.exc|apply Xl.ok|exact Xl.exc|apply Xm.ok|exact Xm.exc|apply Xn.ok|exact Xn.exc|apply Xo.ok|exact Xo.exc|apply Xp.ok|exact Xp.exc|apply Xq.ok|exact Xq.exc|apply Xr.ok|exact Xr.exc|apply Xs.ok|exact Xs.exc|apply Xu.ok|exact Xu.exc|apply Xv.ok|exact Xv.exc|apply Xw.ok|exact Xw.exc|apply Xx.ok|exact Xx.exc|apply Xy.ok|exact Xy.exc|apply Xz.ok|exact Xz.exc|apply XA.ok|exact XA.exc|apply XB.ok|exact XB.exc|apply XC.ok|exact XC.exc|apply XD.ok|exact XD.exc|apply XE.ok|exact XE.exc|apply XF.ok|exact XF.exc|apply XG.ok|exact XG.exc|apply XH.ok|exact XH.exc|apply XI.ok|exact XI.exc|exact XJ.t|exact XJ.f|exact XJ.exc|apply XK.t|exact XK.f|exact XK.exc|exact XM.t|apply XM.f|exact XM.exc|apply XN.t|exact XN.f|apply XO.andT|exact XO.andF|apply XO.orF|exact XO.orT|apply XQ.next|exact XQ.ret|exact XQ.exc|exact XQ.cont|exact XQ.brk|apply XR.t|apply XR.f|exact XR.exc|exact XS.ok|apply XS.exc|exact XT|apply XU|apply XV.next|exact XV.ret|exact XV.exc|exact XW|exact XX)|exact XY rfl|apply XZ rfl Qa|apply XZ rfl Qb|exact (rfl : listFree _ = true)|exact X0 rfl|apply X1 rfl|exact X2 rfl|exact X3 rfl|exact (rfl : (_ : Option _) = some _)|decide)
noncomputable def stayT (n : Nat) (cs : List Nat) : List Nat := if stayL n cs = [] then [45] else (stayL n cs).map fun (p : Nat) => sgAt p
theorem minus_txt : ("-" : Str) = txt [45] := by decide +kernel
theorem empty_txt : ("" : Str) = txt [] := by decide +kernel
theorem stayL_lt {n : Nat} {cs : List Nat} {p : Nat} (h : p ∈ stayL n cs) : p < n := List.mem_range.mp (List.mem_filter.mp h).1
theorem stayL_len (n : Nat) (cs : List Nat) : (stayL n cs).length ≤ n := by
  have := List.length_filter_le (stays cs) (List.range n)
  rwa [List.length_range] at this
theorem F_change_text_ok (K : Frag) {n : Nat} {cs : List Nat} (h3 : 3 ≤ n) (h12 : n ≤ 12) (hc : Change n cs) : F_change_text K [.int n, .tup (nD cs)] = .ok (.sh (.str (txt (stayT n cs)))) := by
  have hl := chOk_len hc.ok (Nat.zero_le _)
  have e1 := F_need_change_ok K h3 h12 (F_need_places_ok K hc h12)
  have e2 := F_staying_ok K (n := n) (cs := cs) h12 (by omega)
  have hs := stayL_len n cs
  have e3 := lenI_list (ds := nD (stayL n cs)) (by rw [nD_len]; omega)
  rw [nD_len] at e3
  unfold F_change_text f_change_text stayT
  by_cases hz : stayL n cs = []
  · rw [if_pos hz]
    have e4 : eqI (.int ((stayL n cs).length : Int)) (.int 0) = some (.sh (.bool true)) := by rw [hz]; exact eqI_t 0
    refine' run_of [some (.sh (.int n)), some (.sh (.tup (nD cs))), none] rfl rfl ?_ fin_ret
    rw [← minus_txt]
    repeat' (first|(with_reducible first|assumption|exact Qa|exact Qb|exact Qc|apply Qd|exact Qe|apply Qf|exact Qg|apply Qh|exact Qi|apply Qj|exact Qk|apply Ql|apply Qm|exact Qn|exact Qo|apply Qp|exact Qq|exact Qr|apply Qs|exact Qt|exact Qu|exact Qv|exact Qw|exact Qx|exact Qy|exact Qz|apply QA|apply QB|apply QC|apply QD|apply QE|apply QF|apply QG|apply QH|apply QI|apply QJ|apply QK|apply QL|apply QM|apply QN|apply QO|apply QP|apply QQ|apply QR|apply QS|apply QT|apply QU|apply QV|apply QW|apply QX|apply QY|apply QZ|apply Q0|apply Q1|apply Q2|apply Q3|apply Q4|apply Q5|apply Q6|apply Q7|apply Q8|apply Q9|apply Xa|apply Xb|apply Xc|apply Xd|apply Xe|apply Xf|apply Xg|apply Xh|apply Xi|exact Xj|apply Xk.ok|exact Xk.exc|apply Xl.ok|exact Xl.exc|apply Xm.ok|exact Xm.exc|apply Xn.ok|exact Xn.exc|apply Xo.ok|exact Xo.exc|apply Xp.ok|exact Xp.exc|apply Xq.ok|exact Xq.exc|apply Xr.ok|exact Xr.exc|apply Xs.ok|exact Xs.exc|apply Xu.ok|exact Xu.exc|apply Xv.ok|exact Xv.exc|apply Xw.ok|exact Xw.exc|apply Xx.ok|exact Xx.exc|apply Xy.ok|exact Xy.exc|apply Xz.ok|exact Xz.exc|apply XA.ok|exact XA.exc|apply XB.ok|exact XB.exc|apply XC.ok|exact XC.exc|apply XD.ok|exact XD.exc|apply XE.ok|exact XE.exc|apply XF.ok|exact XF.exc|apply XG.ok|exact XG.exc|apply XH.ok|exact XH.exc|apply XI.ok|exact XI.exc|exact XJ.t|exact XJ.f|exact XJ.exc|apply XK.t|exact XK.f|exact XK.exc|exact XM.t|apply XM.f|exact XM.exc|apply XN.t|exact XN.f|apply XO.andT|exact XO.andF|apply XO.orF|exact XO.orT|apply XQ.next|exact XQ.ret|exact XQ.exc|exact XQ.cont|exact XQ.brk|apply XR.t|apply XR.f|exact XR.exc|exact XS.ok|apply XS.exc|exact XT|apply XU|apply XV.next|exact XV.ret|exact XV.exc|exact XW|exact XX)|exact XY rfl|apply XZ rfl Qa|apply XZ rfl Qb|exact (rfl : listFree _ = true)|exact X0 rfl|apply X1 rfl|exact X2 rfl|exact X3 rfl|exact (rfl : (_ : Option _) = some _)|decide)
  · rw [if_neg hz]
    have hp := List.length_pos_iff.mpr hz
    have e4 := eqI_f (a := ((stayL n cs).length : Int)) (b := 0) (by omega)
    have e5 := F_signs_of_list K (ns := cI (stayL n cs)) (fun p hp => by
      obtain ⟨q, hq, rfl⟩ := List.mem_map.mp hp
      have := stayL_lt hq
      omega) (by unfold cI; rw [List.length_map]; omega)
    rw [← nD_cI] at e5
    have e6 : (cI (stayL n cs)).map sgAt = (stayL n cs).map fun (p : Nat) => sgAt p := by unfold cI; rw [List.map_map]; rfl
    rw [e6] at e5
    refine' run_of [some (.sh (.int n)), some (.sh (.tup (nD cs))), none] rfl rfl ?_ fin_ret
    repeat' (first|(with_reducible first|assumption|exact Qa|exact Qb|exact Qc|apply Qd|exact Qe|apply Qf|exact Qg|apply Qh|exact Qi|apply Qj|exact Qk|apply Ql|apply Qm|exact Qn|exact Qo|apply Qp|exact Qq|exact Qr|apply Qs|exact Qt|exact Qu|exact Qv|exact Qw|exact Qx|exact Qy|exact Qz|apply QA|apply QB|apply QC|apply QD|apply QE|apply QF|apply QG|apply QH|apply QI|apply QJ|apply QK|apply QL|apply QM|apply QN|apply QO|apply QP|apply QQ|apply QR|apply QS|apply QT|apply QU|apply QV|apply QW|apply QX|apply QY|apply QZ|apply Q0|apply Q1|apply Q2|apply Q3|apply Q4|apply Q5|apply Q6|apply Q7|apply Q8|apply Q9|apply Xa|apply Xb|apply Xc|apply Xd|apply Xe|apply Xf|apply Xg|apply Xh|apply Xi|exact Xj|apply Xk.ok|exact Xk.exc|apply Xl.ok|exact Xl.exc|apply Xm.ok|exact Xm.exc|apply Xn.ok|exact Xn.exc|apply Xo.ok|exact Xo.exc|apply Xp.ok|exact Xp.exc|apply Xq.ok|exact Xq.exc|apply Xr.ok|exact Xr.exc|apply Xs.ok|exact Xs.exc|apply Xu.ok|exact Xu.exc|apply Xv.ok|exact Xv.exc|apply Xw.ok|exact Xw.exc|apply Xx.ok|exact Xx.exc|apply Xy.ok|exact Xy.exc|apply Xz.ok|exact Xz.exc|apply XA.ok|exact XA.exc|apply XB.ok|exact XB.exc|apply XC.ok|exact XC.exc|apply XD.ok|exact XD.exc|apply XE.ok|exact XE.exc|apply XF.ok|exact XF.exc|apply XG.ok|exact XG.exc|apply XH.ok|exact XH.exc|apply XI.ok|exact XI.exc|exact XJ.t|exact XJ.f|exact XJ.exc|apply XK.t|exact XK.f|exact XK.exc|exact XM.t|apply XM.f|exact XM.exc|apply XN.t|exact XN.f|apply XO.andT|exact XO.andF|apply XO.orF|exact XO.orT|apply XQ.next|exact XQ.ret|exact XQ.exc|exact XQ.cont|exact XQ.brk|apply XR.t|apply XR.f|exact XR.exc|exact XS.ok|apply XS.exc|exact XT|apply XU|apply XV.next|exact XV.ret|exact XV.exc|exact XW|exact XX)|exact XY rfl|apply XZ rfl Qa|apply XZ rfl Qb|exact (rfl : listFree _ = true)|exact X0 rfl|apply X1 rfl|exact X2 rfl|exact X3 rfl|exact (rfl : (_ : Option _) = some _)|decide)
theorem F_change_text_bad (K : Frag) (d e : D) {C : Addr} (h : F_need_change K [d, e] = .exc C) : F_change_text K [d, e] = .exc C := by
  unfold F_change_text f_change_text
  refine' run_of [some (.sh d), some (.sh e), none] rfl rfl ?_ fin_exc
  repeat' (first|(with_reducible first|assumption|exact Qa|exact Qb|exact Qc|apply Qd|exact Qe|apply Qf|exact Qg|apply Qh|exact Qi|apply Qj|exact Qk|apply Ql|apply Qm|exact Qn|exact Qo|apply Qp|exact Qq|exact Qr|apply Qs|exact Qt|exact Qu|exact Qv|exact Qw|exact Qx|exact Qy|exact Qz|apply QA|apply QB|apply QC|apply QD|apply QE|apply QF|apply QG|apply QH|apply QI|apply QJ|apply QK|apply QL|apply QM|apply QN|apply QO|apply QP|apply QQ|apply QR|apply QS|apply QT|apply QU|apply QV|apply QW|apply QX|apply QY|apply QZ|apply Q0|apply Q1|apply Q2|apply Q3|apply Q4|apply Q5|apply Q6|apply Q7|apply Q8|apply Q9|apply Xa|apply Xb|apply Xc|apply Xd|apply Xe|apply Xf|apply Xg|apply Xh|apply Xi|exact Xj|apply Xk.ok|exact Xk.exc|apply Xl.ok|exact Xl.exc|apply Xm.ok|exact Xm.exc|apply Xn.ok|exact Xn.exc|apply Xo.ok|exact Xo.exc|apply Xp.ok|exact Xp.exc|apply Xq.ok|exact Xq.exc|apply Xr.ok|exact Xr.exc|apply Xs.ok|exact Xs.exc|apply Xu.ok|exact Xu.exc|apply Xv.ok|exact Xv.exc|apply Xw.ok|exact Xw.exc|apply Xx.ok|exact Xx.exc|apply Xy.ok|exact Xy.exc|apply Xz.ok|exact Xz.exc|apply XA.ok|exact XA.exc|apply XB.ok|exact XB.exc|apply XC.ok|exact XC.exc|apply XD.ok|exact XD.exc|apply XE.ok|exact XE.exc|apply XF.ok|exact XF.exc|apply XG.ok|exact XG.exc|apply XH.ok|exact XH.exc|apply XI.ok|exact XI.exc|exact XJ.t|exact XJ.f|exact XJ.exc|apply XK.t|exact XK.f|exact XK.exc|exact XM.t|apply XM.f|exact XM.exc|apply XN.t|exact XN.f|apply XO.andT|exact XO.andF|apply XO.orF|exact XO.orT|apply XQ.next|exact XQ.ret|exact XQ.exc|exact XQ.cont|exact XQ.brk|apply XR.t|apply XR.f|exact XR.exc|exact XS.ok|apply XS.exc|exact XT|apply XU|apply XV.next|exact XV.ret|exact XV.exc|exact XW|exact XX)|exact XY rfl|apply XZ rfl Qa|apply XZ rfl Qb|exact (rfl : listFree _ = true)|exact X0 rfl|apply X1 rfl|exact X2 rfl|exact X3 rfl|exact (rfl : (_ : Option _) = some _)|decide)
end Mine
end

section
set_option Elab.async false
set_option maxRecDepth 100000
set_option maxHeartbeats 4000000
set_option linter.unusedSimpArgs false
set_option linter.unusedVariables false
namespace Mine
open PySem PySem.W
theorem stayL_128 {n : Nat} (hn : n ≤ 12) (cs : List Nat) : ∀ c ∈ (stayL n cs).map (fun (p : Nat) => sgAt p), c < 128 := fun c hc => by
  obtain ⟨p, hp, rfl⟩ := List.mem_map.mp hc
  have := stayL_lt hp
  exact sg_128 _ (sgAt_mem (by omega) (by omega))
theorem stays_loop (K : Frag) {dc : D} {n : Nat} {cs : List Nat} (hn : n ≤ 12) (hin : ∀ p : Int, hasD (.int p) dc = some (decide (p ∈ cI cs))) : ∃ v, forN (bName 3) (sSeq (sIf (eAnd (eTest2 notInI (eOp 3) (eOp 1)) (eAnd (eTest2 notInI (eVal (eOp2 subI (eOp 3) (eVal (eConst (.int 1))))) (eOp 1)) eAndNil)) (sSeq (sAssign 2 (eOp2 addS (eOp 2) (eVal (eOp2 strIdx (eVal (eConst (.str "1234567890et"))) (eOp 3))))) sNil) sNil) sNil) (nD (List.range n)) [some (.sh (.int n)), some (.sh dc), some (.sh (.str (txt []))), none] = .ok .next [some (.sh (.int n)), some (.sh dc), some (.sh (.str (txt ((stayL n cs).map fun (p : Nat) => sgAt p)))), v] := by
  obtain ⟨ρ', h1, done, rest, v, rfl, h2, h3⟩ := forN_ex (b := bName 3) (sf := (sSeq (sIf (eAnd (eTest2 notInI (eOp 3) (eOp 1)) (eAnd (eTest2 notInI (eVal (eOp2 subI (eOp 3) (eVal (eConst (.int 1))))) (eOp 1)) eAndNil)) (sSeq (sAssign 2 (eOp2 addS (eOp 2) (eVal (eOp2 strIdx (eVal (eConst (.str "1234567890et"))) (eOp 3))))) sNil) sNil) sNil)) (fun ρ ds => ∃ (done rest : List Nat) (v : Option T), ρ = [some (.sh (.int n)), some (.sh dc), some (.sh (.str (txt ((done.filter (stays cs)).map fun (p : Nat) => sgAt p)))), v] ∧ ds = nD rest ∧ List.range n = done ++ rest) (by
    rintro ρ d ds ⟨done, rest, v, rfl, h2, h3⟩
    cases rest with
    | nil => cases h2
    | cons k rest =>
      cases h2
      have hk : k < n := by
        have : k ∈ List.range n := by rw [h3]; simp
        exact List.mem_range.mp this
      have hlen : n = done.length + (k :: rest).length := by rw [← List.length_append, ← h3, List.length_range]
      have hf := List.length_filter_le (stays cs) done
      have e1 : notInI (.int k) dc = some (.sh (.bool !(decide (k ∈ cs)))) := by unfold notInI; rw [hin, dec_cI]; rfl
      have e2 : notInI (.int ((k : Int) - 1)) dc = some (.sh (.bool !(prevIn cs k))) := by
        unfold notInI
        rw [hin]
        cases k with
        | zero => rw [show (((0 : Nat) : Int) - 1) = -1 by decide, decide_eq_false not_neg]; rfl
        | succ q => rw [show (((q + 1 : Nat) : Int) - 1) = (q : Int) by omega, dec_cI]; rfl
      have e3 := sign_idx (p := (k : Int)) (by omega) (by omega)
      have e4 := addS_txt (a := (done.filter (stays cs)).map fun (p : Nat) => sgAt p) (b := [sgAt k]) (by rw [List.length_map]; simp; omega)
      rw [← sgn_txt] at e4
      have hst : stays cs k = (!(decide (k ∈ cs)) && !(prevIn cs k)) := rfl
      by_cases hs : stays cs k = true
      · rw [hst, Bool.and_eq_true_iff] at hs
        rw [hs.1] at e1
        rw [hs.2] at e2
        refine ⟨[some (.sh (.int n)), some (.sh dc), some (.sh (.str (txt ((done.filter (stays cs)).map fun (p : Nat) => sgAt p)))), some (.sh (.int k))], [some (.sh (.int n)), some (.sh dc), some (.sh (.str (txt (((done.filter (stays cs)).map fun (p : Nat) => sgAt p) ++ [sgAt k])))), some (.sh (.int k))], rfl, ?_, done ++ [k], rest, some (.sh (.int k)), ?_, rfl, by rw [h3]; simp⟩
        · repeat' (first|(with_reducible first|assumption|exact Qa|exact Qb|exact Qc|apply Qd|exact Qe|apply Qf|exact Qg|apply Qh|exact Qi|apply Qj|exact Qk|apply Ql|apply Qm|exact Qn|exact Qo|apply Qp|exact Qq|exact Qr|apply Qs|exact Qt|exact Qu|exact Qv|exact Qw|exact Qx|exact Qy|exact Qz|apply QA|apply QB|apply QC|apply QD|apply QE|apply QF|apply QG|apply QH|apply QI|apply QJ|apply QK|apply QL|apply QM|apply QN|apply QO|apply QP|apply QQ|apply QR|apply QS|apply QT|apply QU|apply QV|apply QW|apply QX|apply QY|apply QZ|apply Q0|apply Q1|apply Q2|apply Q3|apply Q4|apply Q5|apply Q6|apply Q7|apply Q8|apply Q9|apply Xa|apply Xb|apply Xc|apply Xd|apply Xe|apply Xf|apply Xg|apply Xh|apply Xi|exact Xj|apply Xk.ok|exact Xk.exc|apply Xl.ok|exact Xl.exc|apply Xm.ok|exact Xm.exc|apply Xn.ok|exact Xn.exc|apply Xo.ok|exact Xo.exc|apply Xp.ok|exact Xp.exc|apply Xq.ok|exact Xq.exc|apply Xr.ok|exact Xr.exc|apply Xs.ok|exact Xs.exc|apply Xu.ok|exact Xu.exc|apply Xv.ok|exact Xv.exc|apply Xw.ok|exact Xw.exc|apply Xx.ok|exact Xx.exc|apply Xy.ok|exact Xy.exc|apply Xz.ok|exact Xz.exc|apply XA.ok|exact XA.exc|apply XB.ok|exact XB.exc|apply XC.ok|exact XC.exc|apply XD.ok|exact XD.exc|apply XE.ok|exact XE.exc|apply XF.ok|exact XF.exc|apply XG.ok|exact XG.exc|apply XH.ok|exact XH.exc|apply XI.ok|exact XI.exc|exact XJ.t|exact XJ.f|exact XJ.exc|apply XK.t|exact XK.f|exact XK.exc|exact XM.t|apply XM.f|exact XM.exc|apply XN.t|exact XN.f|apply XO.andT|exact XO.andF|apply XO.orF|exact XO.orT|apply XQ.next|exact XQ.ret|exact XQ.exc|exact XQ.cont|exact XQ.brk|apply XR.t|apply XR.f|exact XR.exc|exact XS.ok|apply XS.exc|exact XT|apply XU|apply XV.next|exact XV.ret|exact XV.exc|exact XW|exact XX)|exact XY rfl|apply XZ rfl Qa|apply XZ rfl Qb|exact (rfl : listFree _ = true)|exact X0 rfl|apply X1 rfl|exact X2 rfl|exact X3 rfl|exact (rfl : (_ : Option _) = some _)|decide)
        · rw [List.filter_append, List.map_append, List.filter_cons_of_pos (by rw [hst, hs.1, hs.2]; rfl)]; rfl
      · refine ⟨[some (.sh (.int n)), some (.sh dc), some (.sh (.str (txt ((done.filter (stays cs)).map fun (p : Nat) => sgAt p)))), some (.sh (.int k))], [some (.sh (.int n)), some (.sh dc), some (.sh (.str (txt ((done.filter (stays cs)).map fun (p : Nat) => sgAt p)))), some (.sh (.int k))], rfl, ?_, done ++ [k], rest, some (.sh (.int k)), ?_, rfl, by rw [h3]; simp⟩
        · rw [hst, Bool.and_eq_true_iff] at hs
          cases hb : (!(decide (k ∈ cs)) : Bool) with
          | false => rw [hb] at e1; repeat' (first|(with_reducible first|assumption|exact Qa|exact Qb|exact Qc|apply Qd|exact Qe|apply Qf|exact Qg|apply Qh|exact Qi|apply Qj|exact Qk|apply Ql|apply Qm|exact Qn|exact Qo|apply Qp|exact Qq|exact Qr|apply Qs|exact Qt|exact Qu|exact Qv|exact Qw|exact Qx|exact Qy|exact Qz|apply QA|apply QB|apply QC|apply QD|apply QE|apply QF|apply QG|apply QH|apply QI|apply QJ|apply QK|apply QL|apply QM|apply QN|apply QO|apply QP|apply QQ|apply QR|apply QS|apply QT|apply QU|apply QV|apply QW|apply QX|apply QY|apply QZ|apply Q0|apply Q1|apply Q2|apply Q3|apply Q4|apply Q5|apply Q6|apply Q7|apply Q8|apply Q9|apply Xa|apply Xb|apply Xc|apply Xd|apply Xe|apply Xf|apply Xg|apply Xh|apply Xi|exact Xj|apply Xk.ok|exact Xk.exc|apply Xl.ok|exact Xl.exc|apply Xm.ok|exact Xm.exc|apply Xn.ok|exact Xn.exc|apply Xo.ok|exact Xo.exc|apply Xp.ok|exact Xp.exc|apply Xq.ok|exact Xq.exc|apply Xr.ok|exact Xr.exc|apply Xs.ok|exact Xs.exc|apply Xu.ok|exact Xu.exc|apply Xv.ok|exact Xv.exc|apply Xw.ok|exact Xw.exc|apply Xx.ok|exact Xx.exc|apply Xy.ok|exact Xy.exc|apply Xz.ok|exact Xz.exc|apply XA.ok|exact XA.exc|apply XB.ok|exact XB.exc|apply XC.ok|exact XC.exc|apply XD.ok|exact XD.exc|apply XE.ok|exact XE.exc|apply XF.ok|exact XF.exc|apply XG.ok|exact XG.exc|apply XH.ok|exact XH.exc|apply XI.ok|exact XI.exc|exact XJ.t|exact XJ.f|exact XJ.exc|apply XK.t|exact XK.f|exact XK.exc|exact XM.t|apply XM.f|exact XM.exc|apply XN.t|exact XN.f|apply XO.andT|exact XO.andF|apply XO.orF|exact XO.orT|apply XQ.next|exact XQ.ret|exact XQ.exc|exact XQ.cont|exact XQ.brk|apply XR.t|apply XR.f|exact XR.exc|exact XS.ok|apply XS.exc|exact XT|apply XU|apply XV.next|exact XV.ret|exact XV.exc|exact XW|exact XX)|exact XY rfl|apply XZ rfl Qa|apply XZ rfl Qb|exact (rfl : listFree _ = true)|exact X0 rfl|apply X1 rfl|exact X2 rfl|exact X3 rfl|exact (rfl : (_ : Option _) = some _)|decide)
          | true =>
            cases hb2 : (!(prevIn cs k) : Bool) with
            | true => exact absurd ⟨hb, hb2⟩ hs
            | false => rw [hb] at e1; rw [hb2] at e2; repeat' (first|(with_reducible first|assumption|exact Qa|exact Qb|exact Qc|apply Qd|exact Qe|apply Qf|exact Qg|apply Qh|exact Qi|apply Qj|exact Qk|apply Ql|apply Qm|exact Qn|exact Qo|apply Qp|exact Qq|exact Qr|apply Qs|exact Qt|exact Qu|exact Qv|exact Qw|exact Qx|exact Qy|exact Qz|apply QA|apply QB|apply QC|apply QD|apply QE|apply QF|apply QG|apply QH|apply QI|apply QJ|apply QK|apply QL|apply QM|apply QN|apply QO|apply QP|apply QQ|apply QR|apply QS|apply QT|apply QU|apply QV|apply QW|apply QX|apply QY|apply QZ|apply Q0|apply Q1|apply Q2|apply Q3|apply Q4|apply Q5|apply Q6|apply Q7|apply Q8|apply Q9|apply Xa|apply Xb|apply Xc|apply Xd|apply Xe|apply Xf|apply Xg|apply Xh|apply Xi|exact Xj|apply Xk.ok|exact Xk.exc|apply Xl.ok|exact Xl.exc|apply Xm.ok|exact Xm.exc|apply Xn.ok|exact Xn.exc|apply Xo.ok|exact Xo.exc|apply Xp.ok|exact Xp.exc|apply Xq.ok|exact Xq.exc|apply Xr.ok|exact Xr.exc|apply Xs.ok|exact Xs.exc|apply Xu.ok|exact Xu.exc|apply Xv.ok|exact Xv.exc|apply Xw.ok|exact Xw.exc|apply Xx.ok|exact Xx.exc|apply Xy.ok|exact Xy.exc|apply Xz.ok|exact Xz.exc|apply XA.ok|exact XA.exc|apply XB.ok|exact XB.exc|apply XC.ok|exact XC.exc|apply XD.ok|exact XD.exc|apply XE.ok|exact XE.exc|apply XF.ok|exact XF.exc|apply XG.ok|exact XG.exc|apply XH.ok|exact XH.exc|apply XI.ok|exact XI.exc|exact XJ.t|exact XJ.f|exact XJ.exc|apply XK.t|exact XK.f|exact XK.exc|exact XM.t|apply XM.f|exact XM.exc|apply XN.t|exact XN.f|apply XO.andT|exact XO.andF|apply XO.orF|exact XO.orT|apply XQ.next|exact XQ.ret|exact XQ.exc|exact XQ.cont|exact XQ.brk|apply XR.t|apply XR.f|exact XR.exc|exact XS.ok|apply XS.exc|exact XT|apply XU|apply XV.next|exact XV.ret|exact XV.exc|exact XW|exact XX)|exact XY rfl|apply XZ rfl Qa|apply XZ rfl Qb|exact (rfl : listFree _ = true)|exact X0 rfl|apply X1 rfl|exact X2 rfl|exact X3 rfl|exact (rfl : (_ : Option _) = some _)|decide)
        · rw [List.filter_append, List.filter_cons_of_neg hs]; simp) (nD (List.range n)) _ ⟨[], List.range n, none, rfl, rfl, rfl⟩
  have : rest = [] := List.map_eq_nil_iff.mp h2.symm
  subst this
  rw [List.append_nil] at h3
  subst h3
  exact ⟨v, h1⟩
theorem F_law_stays_ok (K : Frag) {dc : D} {n : Nat} {cs : List Nat} (hn : n ≤ 12) (hin : ∀ p : Int, hasD (.int p) dc = some (decide (p ∈ cI cs))) : F_law_stays K [.int n, dc] = .ok (.sh (.str (txt (stayT n cs)))) := by
  obtain ⟨v, h1⟩ := stays_loop K hn hin
  rw [← empty_txt] at h1
  have e2 := items_rng n (by omega)
  rw [rng_nD] at e2
  have e3 := eqI_txt (a := (stayL n cs).map fun (p : Nat) => sgAt p) (b := []) (stayL_128 hn cs) (fun c hc => by cases hc)
  rw [← empty_txt] at e3
  unfold F_law_stays f_law_stays stayT
  by_cases hz : stayL n cs = []
  · rw [if_pos hz, ← minus_txt]
    rw [decide_eq_true (by rw [hz]; rfl)] at e3
    refine' run_of [some (.sh (.int n)), some (.sh dc), none, none] rfl rfl ?_ fin_ret
    repeat' (first|(with_reducible first|assumption|exact Qa|exact Qb|exact Qc|apply Qd|exact Qe|apply Qf|exact Qg|apply Qh|exact Qi|apply Qj|exact Qk|apply Ql|apply Qm|exact Qn|exact Qo|apply Qp|exact Qq|exact Qr|apply Qs|exact Qt|exact Qu|exact Qv|exact Qw|exact Qx|exact Qy|exact Qz|apply QA|apply QB|apply QC|apply QD|apply QE|apply QF|apply QG|apply QH|apply QI|apply QJ|apply QK|apply QL|apply QM|apply QN|apply QO|apply QP|apply QQ|apply QR|apply QS|apply QT|apply QU|apply QV|apply QW|apply QX|apply QY|apply QZ|apply Q0|apply Q1|apply Q2|apply Q3|apply Q4|apply Q5|apply Q6|apply Q7|apply Q8|apply Q9|apply Xa|apply Xb|apply Xc|apply Xd|apply Xe|apply Xf|apply Xg|apply Xh|apply Xi|exact Xj|apply Xk.ok|exact Xk.exc|apply Xl.ok|exact Xl.exc|apply Xm.ok|exact Xm.exc|apply Xn.ok|exact Xn.exc|apply Xo.ok|exact Xo.exc|apply Xp.ok|exact Xp.exc|apply Xq.ok|exact Xq.exc|apply Xr.ok|exact Xr.exc|apply Xs.ok|exact Xs.exc|apply Xu.ok|exact Xu.exc|apply Xv.ok|exact Xv.exc|apply Xw.ok|exact Xw.exc|apply Xx.ok|exact Xx.exc|apply Xy.ok|exact Xy.exc|apply Xz.ok|exact Xz.exc|apply XA.ok|exact XA.exc|apply XB.ok|exact XB.exc|apply XC.ok|exact XC.exc|apply XD.ok|exact XD.exc|apply XE.ok|exact XE.exc|apply XF.ok|exact XF.exc|apply XG.ok|exact XG.exc|apply XH.ok|exact XH.exc|apply XI.ok|exact XI.exc|exact XJ.t|exact XJ.f|exact XJ.exc|apply XK.t|exact XK.f|exact XK.exc|exact XM.t|apply XM.f|exact XM.exc|apply XN.t|exact XN.f|apply XO.andT|exact XO.andF|apply XO.orF|exact XO.orT|apply XQ.next|exact XQ.ret|exact XQ.exc|exact XQ.cont|exact XQ.brk|apply XR.t|apply XR.f|exact XR.exc|exact XS.ok|apply XS.exc|exact XT|apply XU|apply XV.next|exact XV.ret|exact XV.exc|exact XW|exact XX)|exact XY rfl|apply XZ rfl Qa|apply XZ rfl Qb|exact (rfl : listFree _ = true)|exact X0 rfl|apply X1 rfl|exact X2 rfl|exact X3 rfl|exact (rfl : (_ : Option _) = some _)|decide)
  · rw [if_neg hz]
    rw [decide_eq_false (fun q => hz (List.map_eq_nil_iff.mp q))] at e3
    refine' run_of [some (.sh (.int n)), some (.sh dc), none, none] rfl rfl ?_ fin_ret
    repeat' (first|(with_reducible first|assumption|exact Qa|exact Qb|exact Qc|apply Qd|exact Qe|apply Qf|exact Qg|apply Qh|exact Qi|apply Qj|exact Qk|apply Ql|apply Qm|exact Qn|exact Qo|apply Qp|exact Qq|exact Qr|apply Qs|exact Qt|exact Qu|exact Qv|exact Qw|exact Qx|exact Qy|exact Qz|apply QA|apply QB|apply QC|apply QD|apply QE|apply QF|apply QG|apply QH|apply QI|apply QJ|apply QK|apply QL|apply QM|apply QN|apply QO|apply QP|apply QQ|apply QR|apply QS|apply QT|apply QU|apply QV|apply QW|apply QX|apply QY|apply QZ|apply Q0|apply Q1|apply Q2|apply Q3|apply Q4|apply Q5|apply Q6|apply Q7|apply Q8|apply Q9|apply Xa|apply Xb|apply Xc|apply Xd|apply Xe|apply Xf|apply Xg|apply Xh|apply Xi|exact Xj|apply Xk.ok|exact Xk.exc|apply Xl.ok|exact Xl.exc|apply Xm.ok|exact Xm.exc|apply Xn.ok|exact Xn.exc|apply Xo.ok|exact Xo.exc|apply Xp.ok|exact Xp.exc|apply Xq.ok|exact Xq.exc|apply Xr.ok|exact Xr.exc|apply Xs.ok|exact Xs.exc|apply Xu.ok|exact Xu.exc|apply Xv.ok|exact Xv.exc|apply Xw.ok|exact Xw.exc|apply Xx.ok|exact Xx.exc|apply Xy.ok|exact Xy.exc|apply Xz.ok|exact Xz.exc|apply XA.ok|exact XA.exc|apply XB.ok|exact XB.exc|apply XC.ok|exact XC.exc|apply XD.ok|exact XD.exc|apply XE.ok|exact XE.exc|apply XF.ok|exact XF.exc|apply XG.ok|exact XG.exc|apply XH.ok|exact XH.exc|apply XI.ok|exact XI.exc|exact XJ.t|exact XJ.f|exact XJ.exc|apply XK.t|exact XK.f|exact XK.exc|exact XM.t|apply XM.f|exact XM.exc|apply XN.t|exact XN.f|apply XO.andT|exact XO.andF|apply XO.orF|exact XO.orT|apply XQ.next|exact XQ.ret|exact XQ.exc|exact XQ.cont|exact XQ.brk|apply XR.t|apply XR.f|exact XR.exc|exact XS.ok|apply XS.exc|exact XT|apply XU|apply XV.next|exact XV.ret|exact XV.exc|exact XW|exact XX)|exact XY rfl|apply XZ rfl Qa|apply XZ rfl Qb|exact (rfl : listFree _ = true)|exact X0 rfl|apply X1 rfl|exact X2 rfl|exact X3 rfl|exact (rfl : (_ : Option _) = some _)|decide)
theorem hin_tup (cs : List Nat) : ∀ p : Int, hasD (.int p) (.tup (nD cs)) = some (decide (p ∈ cI cs)) := fun p => by rw [nD_cI]; exact has_tup p _
theorem hin_list (cs : List Nat) : ∀ p : Int, hasD (.int p) (.list (nD cs)) = some (decide (p ∈ cI cs)) := fun p => by rw [nD_cI]; exact has_list p _
noncomputable def pB (n : Nat) (ss : List Nat) : Nat → Nat → List Nat → Option (List Nat)
  | 0, _, _ => none
  | m + 1, p, fs => if p < n then (if p ∈ ss then pB n ss m (p + 1) fs else if p + 1 < n ∧ ¬ p + 1 ∈ ss then pB n ss m (p + 2) (fs ++ [p]) else none) else some fs
noncomputable def PbR (n : Nat) (ss : List Nat) (X : Option (List Nat)) (r : Res Fl) : Prop := match X with
  | none => ∃ ρ, r = .exc 109 ρ
  | some fs => ∃ v, r = .ok .next [some (.sh (.int n)), some (.sh (.list (nD ss))), some (.ow true (.list (nD fs))), v] ∧ fs.length ≤ 12
theorem beside_loop (K : Frag) {n : Nat} {ss : List Nat} (hn : n ≤ 12) : ∃ r, (sWhile 1000 (eTest2 ltI (eOp 3) (eOp 0)) (sSeq (sIf (eTest2 inI (eOp 3) (eOp 1)) (sSeq (sAssign 3 (eOp2 addS (eOp 3) (eVal (eConst (.int 1))))) sNil) (sSeq (sIf (eAnd (eTest2 ltI (eVal (eOp2 addS (eOp 3) (eVal (eConst (.int 1))))) (eOp 0)) (eAnd (eTest2 notInI (eVal (eOp2 addS (eOp 3) (eVal (eConst (.int 1))))) (eOp 1)) eAndNil)) (sSeq (sExpr (eVal (eAppend 2 (eVar 3)))) (sSeq (sAssign 3 (eOp2 addS (eOp 3) (eVal (eConst (.int 2))))) sNil)) (sSeq (sRaise 109 (eCons (eConst (.str "a place that stays alone")) eNil)) sNil)) sNil)) sNil)) [some (.sh (.int n)), some (.sh (.list (nD ss))), some (.ow true (.list [])), some (.sh (.int 0))] = r ∧ PbR n ss (pB n ss (n + 1) 0 []) r := by
  refine while_ex (fun m ρ => ∃ (fs : List Nat) (p : Nat), ρ = [some (.sh (.int n)), some (.sh (.list (nD ss))), some (.ow true (.list (nD fs))), some (.sh (.int p))] ∧ pB n ss m p fs = pB n ss (n + 1) 0 [] ∧ n < p + m ∧ p ≤ n ∧ fs.length ≤ p) _ ?_ 1000 (n + 1) _ ⟨[], 0, rfl, rfl, by omega, Nat.zero_le _, Nat.zero_le _⟩ (by omega)
  rintro m ρ ⟨fs, p, rfl, hX, hm, hpn, hl⟩
  cases m with
  | zero => omega
  | succ m =>
    rw [pB] at hX
    by_cases hp : p < n
    · right
      rw [if_pos hp] at hX
      have e1 := ltI_t (a := (p : Int)) (b := n) (by omega)
      have e2 := in_nDl p ss
      refine ⟨[some (.sh (.int n)), some (.sh (.list (nD ss))), some (.ow true (.list (nD fs))), some (.sh (.int p))], ?_⟩
      by_cases hq : p ∈ ss
      · rw [if_pos hq] at hX
        rw [decide_eq_true hq] at e2
        refine ⟨.ok .next [some (.sh (.int n)), some (.sh (.list (nD ss))), some (.ow true (.list (nD fs))), some (.sh (.int ((p : Int) + 1)))], by repeat' (first|(with_reducible first|assumption|exact Qa|exact Qb|exact Qc|apply Qd|exact Qe|apply Qf|exact Qg|apply Qh|exact Qi|apply Qj|exact Qk|apply Ql|apply Qm|exact Qn|exact Qo|apply Qp|exact Qq|exact Qr|apply Qs|exact Qt|exact Qu|exact Qv|exact Qw|exact Qx|exact Qy|exact Qz|apply QA|apply QB|apply QC|apply QD|apply QE|apply QF|apply QG|apply QH|apply QI|apply QJ|apply QK|apply QL|apply QM|apply QN|apply QO|apply QP|apply QQ|apply QR|apply QS|apply QT|apply QU|apply QV|apply QW|apply QX|apply QY|apply QZ|apply Q0|apply Q1|apply Q2|apply Q3|apply Q4|apply Q5|apply Q6|apply Q7|apply Q8|apply Q9|apply Xa|apply Xb|apply Xc|apply Xd|apply Xe|apply Xf|apply Xg|apply Xh|apply Xi|exact Xj|apply Xk.ok|exact Xk.exc|apply Xl.ok|exact Xl.exc|apply Xm.ok|exact Xm.exc|apply Xn.ok|exact Xn.exc|apply Xo.ok|exact Xo.exc|apply Xp.ok|exact Xp.exc|apply Xq.ok|exact Xq.exc|apply Xr.ok|exact Xr.exc|apply Xs.ok|exact Xs.exc|apply Xu.ok|exact Xu.exc|apply Xv.ok|exact Xv.exc|apply Xw.ok|exact Xw.exc|apply Xx.ok|exact Xx.exc|apply Xy.ok|exact Xy.exc|apply Xz.ok|exact Xz.exc|apply XA.ok|exact XA.exc|apply XB.ok|exact XB.exc|apply XC.ok|exact XC.exc|apply XD.ok|exact XD.exc|apply XE.ok|exact XE.exc|apply XF.ok|exact XF.exc|apply XG.ok|exact XG.exc|apply XH.ok|exact XH.exc|apply XI.ok|exact XI.exc|exact XJ.t|exact XJ.f|exact XJ.exc|apply XK.t|exact XK.f|exact XK.exc|exact XM.t|apply XM.f|exact XM.exc|apply XN.t|exact XN.f|apply XO.andT|exact XO.andF|apply XO.orF|exact XO.orT|apply XQ.next|exact XQ.ret|exact XQ.exc|exact XQ.cont|exact XQ.brk|apply XR.t|apply XR.f|exact XR.exc|exact XS.ok|apply XS.exc|exact XT|apply XU|apply XV.next|exact XV.ret|exact XV.exc|exact XW|exact XX)|exact XY rfl|apply XZ rfl Qa|apply XZ rfl Qb|exact (rfl : listFree _ = true)|exact X0 rfl|apply X1 rfl|exact X2 rfl|exact X3 rfl|exact (rfl : (_ : Option _) = some _)|decide), ?_, m, Nat.lt_succ_self _, fs, p + 1, ?_, hX, by omega, by omega, by omega⟩
        · repeat' (first|(with_reducible first|assumption|exact Qa|exact Qb|exact Qc|apply Qd|exact Qe|apply Qf|exact Qg|apply Qh|exact Qi|apply Qj|exact Qk|apply Ql|apply Qm|exact Qn|exact Qo|apply Qp|exact Qq|exact Qr|apply Qs|exact Qt|exact Qu|exact Qv|exact Qw|exact Qx|exact Qy|exact Qz|apply QA|apply QB|apply QC|apply QD|apply QE|apply QF|apply QG|apply QH|apply QI|apply QJ|apply QK|apply QL|apply QM|apply QN|apply QO|apply QP|apply QQ|apply QR|apply QS|apply QT|apply QU|apply QV|apply QW|apply QX|apply QY|apply QZ|apply Q0|apply Q1|apply Q2|apply Q3|apply Q4|apply Q5|apply Q6|apply Q7|apply Q8|apply Q9|apply Xa|apply Xb|apply Xc|apply Xd|apply Xe|apply Xf|apply Xg|apply Xh|apply Xi|exact Xj|apply Xk.ok|exact Xk.exc|apply Xl.ok|exact Xl.exc|apply Xm.ok|exact Xm.exc|apply Xn.ok|exact Xn.exc|apply Xo.ok|exact Xo.exc|apply Xp.ok|exact Xp.exc|apply Xq.ok|exact Xq.exc|apply Xr.ok|exact Xr.exc|apply Xs.ok|exact Xs.exc|apply Xu.ok|exact Xu.exc|apply Xv.ok|exact Xv.exc|apply Xw.ok|exact Xw.exc|apply Xx.ok|exact Xx.exc|apply Xy.ok|exact Xy.exc|apply Xz.ok|exact Xz.exc|apply XA.ok|exact XA.exc|apply XB.ok|exact XB.exc|apply XC.ok|exact XC.exc|apply XD.ok|exact XD.exc|apply XE.ok|exact XE.exc|apply XF.ok|exact XF.exc|apply XG.ok|exact XG.exc|apply XH.ok|exact XH.exc|apply XI.ok|exact XI.exc|exact XJ.t|exact XJ.f|exact XJ.exc|apply XK.t|exact XK.f|exact XK.exc|exact XM.t|apply XM.f|exact XM.exc|apply XN.t|exact XN.f|apply XO.andT|exact XO.andF|apply XO.orF|exact XO.orT|apply XQ.next|exact XQ.ret|exact XQ.exc|exact XQ.cont|exact XQ.brk|apply XR.t|apply XR.f|exact XR.exc|exact XS.ok|apply XS.exc|exact XT|apply XU|apply XV.next|exact XV.ret|exact XV.exc|exact XW|exact XX)|exact XY rfl|apply XZ rfl Qa|apply XZ rfl Qb|exact (rfl : listFree _ = true)|exact X0 rfl|apply X1 rfl|exact X2 rfl|exact X3 rfl|exact (rfl : (_ : Option _) = some _)|decide)
        · rw [show ((p : Int) + 1) = ((p + 1 : Nat) : Int) by omega]
      · rw [if_neg hq] at hX
        rw [decide_eq_false hq] at e2
        have e3 := notIn_nDl (p + 1) ss
        rw [show (((p + 1 : Nat) : Int)) = (p : Int) + 1 by omega] at e3
        by_cases h1 : p + 1 < n
        · have e4 := ltI_t (a := (p : Int) + 1) (b := n) (by omega)
          by_cases h2 : p + 1 ∈ ss
          · rw [if_neg (fun q => q.2 h2)] at hX
            rw [decide_eq_true h2, Bool.not_true] at e3
            refine ⟨.exc 109 [some (.sh (.int n)), some (.sh (.list (nD ss))), some (.ow true (.list (nD fs))), some (.sh (.int p))], by repeat' (first|(with_reducible first|assumption|exact Qa|exact Qb|exact Qc|apply Qd|exact Qe|apply Qf|exact Qg|apply Qh|exact Qi|apply Qj|exact Qk|apply Ql|apply Qm|exact Qn|exact Qo|apply Qp|exact Qq|exact Qr|apply Qs|exact Qt|exact Qu|exact Qv|exact Qw|exact Qx|exact Qy|exact Qz|apply QA|apply QB|apply QC|apply QD|apply QE|apply QF|apply QG|apply QH|apply QI|apply QJ|apply QK|apply QL|apply QM|apply QN|apply QO|apply QP|apply QQ|apply QR|apply QS|apply QT|apply QU|apply QV|apply QW|apply QX|apply QY|apply QZ|apply Q0|apply Q1|apply Q2|apply Q3|apply Q4|apply Q5|apply Q6|apply Q7|apply Q8|apply Q9|apply Xa|apply Xb|apply Xc|apply Xd|apply Xe|apply Xf|apply Xg|apply Xh|apply Xi|exact Xj|apply Xk.ok|exact Xk.exc|apply Xl.ok|exact Xl.exc|apply Xm.ok|exact Xm.exc|apply Xn.ok|exact Xn.exc|apply Xo.ok|exact Xo.exc|apply Xp.ok|exact Xp.exc|apply Xq.ok|exact Xq.exc|apply Xr.ok|exact Xr.exc|apply Xs.ok|exact Xs.exc|apply Xu.ok|exact Xu.exc|apply Xv.ok|exact Xv.exc|apply Xw.ok|exact Xw.exc|apply Xx.ok|exact Xx.exc|apply Xy.ok|exact Xy.exc|apply Xz.ok|exact Xz.exc|apply XA.ok|exact XA.exc|apply XB.ok|exact XB.exc|apply XC.ok|exact XC.exc|apply XD.ok|exact XD.exc|apply XE.ok|exact XE.exc|apply XF.ok|exact XF.exc|apply XG.ok|exact XG.exc|apply XH.ok|exact XH.exc|apply XI.ok|exact XI.exc|exact XJ.t|exact XJ.f|exact XJ.exc|apply XK.t|exact XK.f|exact XK.exc|exact XM.t|apply XM.f|exact XM.exc|apply XN.t|exact XN.f|apply XO.andT|exact XO.andF|apply XO.orF|exact XO.orT|apply XQ.next|exact XQ.ret|exact XQ.exc|exact XQ.cont|exact XQ.brk|apply XR.t|apply XR.f|exact XR.exc|exact XS.ok|apply XS.exc|exact XT|apply XU|apply XV.next|exact XV.ret|exact XV.exc|exact XW|exact XX)|exact XY rfl|apply XZ rfl Qa|apply XZ rfl Qb|exact (rfl : listFree _ = true)|exact X0 rfl|apply X1 rfl|exact X2 rfl|exact X3 rfl|exact (rfl : (_ : Option _) = some _)|decide), ?_, ?_⟩
            · repeat' (first|(with_reducible first|assumption|exact Qa|exact Qb|exact Qc|apply Qd|exact Qe|apply Qf|exact Qg|apply Qh|exact Qi|apply Qj|exact Qk|apply Ql|apply Qm|exact Qn|exact Qo|apply Qp|exact Qq|exact Qr|apply Qs|exact Qt|exact Qu|exact Qv|exact Qw|exact Qx|exact Qy|exact Qz|apply QA|apply QB|apply QC|apply QD|apply QE|apply QF|apply QG|apply QH|apply QI|apply QJ|apply QK|apply QL|apply QM|apply QN|apply QO|apply QP|apply QQ|apply QR|apply QS|apply QT|apply QU|apply QV|apply QW|apply QX|apply QY|apply QZ|apply Q0|apply Q1|apply Q2|apply Q3|apply Q4|apply Q5|apply Q6|apply Q7|apply Q8|apply Q9|apply Xa|apply Xb|apply Xc|apply Xd|apply Xe|apply Xf|apply Xg|apply Xh|apply Xi|exact Xj|apply Xk.ok|exact Xk.exc|apply Xl.ok|exact Xl.exc|apply Xm.ok|exact Xm.exc|apply Xn.ok|exact Xn.exc|apply Xo.ok|exact Xo.exc|apply Xp.ok|exact Xp.exc|apply Xq.ok|exact Xq.exc|apply Xr.ok|exact Xr.exc|apply Xs.ok|exact Xs.exc|apply Xu.ok|exact Xu.exc|apply Xv.ok|exact Xv.exc|apply Xw.ok|exact Xw.exc|apply Xx.ok|exact Xx.exc|apply Xy.ok|exact Xy.exc|apply Xz.ok|exact Xz.exc|apply XA.ok|exact XA.exc|apply XB.ok|exact XB.exc|apply XC.ok|exact XC.exc|apply XD.ok|exact XD.exc|apply XE.ok|exact XE.exc|apply XF.ok|exact XF.exc|apply XG.ok|exact XG.exc|apply XH.ok|exact XH.exc|apply XI.ok|exact XI.exc|exact XJ.t|exact XJ.f|exact XJ.exc|apply XK.t|exact XK.f|exact XK.exc|exact XM.t|apply XM.f|exact XM.exc|apply XN.t|exact XN.f|apply XO.andT|exact XO.andF|apply XO.orF|exact XO.orT|apply XQ.next|exact XQ.ret|exact XQ.exc|exact XQ.cont|exact XQ.brk|apply XR.t|apply XR.f|exact XR.exc|exact XS.ok|apply XS.exc|exact XT|apply XU|apply XV.next|exact XV.ret|exact XV.exc|exact XW|exact XX)|exact XY rfl|apply XZ rfl Qa|apply XZ rfl Qb|exact (rfl : listFree _ = true)|exact X0 rfl|apply X1 rfl|exact X2 rfl|exact X3 rfl|exact (rfl : (_ : Option _) = some _)|decide)
            · show PbR n ss _ _
              rw [← hX]; exact ⟨_, rfl⟩
          · rw [if_pos ⟨h1, h2⟩] at hX
            rw [decide_eq_false h2, Bool.not_false] at e3
            have hl' : (nD fs).length ≤ 1000000 := by rw [nD_len]; omega
            refine ⟨.ok .next [some (.sh (.int n)), some (.sh (.list (nD ss))), some (.ow true (.list (nD fs ++ [.int p]))), some (.sh (.int ((p : Int) + 2)))], by repeat' (first|(with_reducible first|assumption|exact Qa|exact Qb|exact Qc|apply Qd|exact Qe|apply Qf|exact Qg|apply Qh|exact Qi|apply Qj|exact Qk|apply Ql|apply Qm|exact Qn|exact Qo|apply Qp|exact Qq|exact Qr|apply Qs|exact Qt|exact Qu|exact Qv|exact Qw|exact Qx|exact Qy|exact Qz|apply QA|apply QB|apply QC|apply QD|apply QE|apply QF|apply QG|apply QH|apply QI|apply QJ|apply QK|apply QL|apply QM|apply QN|apply QO|apply QP|apply QQ|apply QR|apply QS|apply QT|apply QU|apply QV|apply QW|apply QX|apply QY|apply QZ|apply Q0|apply Q1|apply Q2|apply Q3|apply Q4|apply Q5|apply Q6|apply Q7|apply Q8|apply Q9|apply Xa|apply Xb|apply Xc|apply Xd|apply Xe|apply Xf|apply Xg|apply Xh|apply Xi|exact Xj|apply Xk.ok|exact Xk.exc|apply Xl.ok|exact Xl.exc|apply Xm.ok|exact Xm.exc|apply Xn.ok|exact Xn.exc|apply Xo.ok|exact Xo.exc|apply Xp.ok|exact Xp.exc|apply Xq.ok|exact Xq.exc|apply Xr.ok|exact Xr.exc|apply Xs.ok|exact Xs.exc|apply Xu.ok|exact Xu.exc|apply Xv.ok|exact Xv.exc|apply Xw.ok|exact Xw.exc|apply Xx.ok|exact Xx.exc|apply Xy.ok|exact Xy.exc|apply Xz.ok|exact Xz.exc|apply XA.ok|exact XA.exc|apply XB.ok|exact XB.exc|apply XC.ok|exact XC.exc|apply XD.ok|exact XD.exc|apply XE.ok|exact XE.exc|apply XF.ok|exact XF.exc|apply XG.ok|exact XG.exc|apply XH.ok|exact XH.exc|apply XI.ok|exact XI.exc|exact XJ.t|exact XJ.f|exact XJ.exc|apply XK.t|exact XK.f|exact XK.exc|exact XM.t|apply XM.f|exact XM.exc|apply XN.t|exact XN.f|apply XO.andT|exact XO.andF|apply XO.orF|exact XO.orT|apply XQ.next|exact XQ.ret|exact XQ.exc|exact XQ.cont|exact XQ.brk|apply XR.t|apply XR.f|exact XR.exc|exact XS.ok|apply XS.exc|exact XT|apply XU|apply XV.next|exact XV.ret|exact XV.exc|exact XW|exact XX)|exact XY rfl|apply XZ rfl Qa|apply XZ rfl Qb|exact (rfl : listFree _ = true)|exact X0 rfl|apply X1 rfl|exact X2 rfl|exact X3 rfl|exact (rfl : (_ : Option _) = some _)|decide), ?_, m, Nat.lt_succ_self _, fs ++ [p], p + 2, ?_, hX, by omega, by omega, by simp; omega⟩
            · repeat' (first|(with_reducible first|assumption|exact Qa|exact Qb|exact Qc|apply Qd|exact Qe|apply Qf|exact Qg|apply Qh|exact Qi|apply Qj|exact Qk|apply Ql|apply Qm|exact Qn|exact Qo|apply Qp|exact Qq|exact Qr|apply Qs|exact Qt|exact Qu|exact Qv|exact Qw|exact Qx|exact Qy|exact Qz|apply QA|apply QB|apply QC|apply QD|apply QE|apply QF|apply QG|apply QH|apply QI|apply QJ|apply QK|apply QL|apply QM|apply QN|apply QO|apply QP|apply QQ|apply QR|apply QS|apply QT|apply QU|apply QV|apply QW|apply QX|apply QY|apply QZ|apply Q0|apply Q1|apply Q2|apply Q3|apply Q4|apply Q5|apply Q6|apply Q7|apply Q8|apply Q9|apply Xa|apply Xb|apply Xc|apply Xd|apply Xe|apply Xf|apply Xg|apply Xh|apply Xi|exact Xj|apply Xk.ok|exact Xk.exc|apply Xl.ok|exact Xl.exc|apply Xm.ok|exact Xm.exc|apply Xn.ok|exact Xn.exc|apply Xo.ok|exact Xo.exc|apply Xp.ok|exact Xp.exc|apply Xq.ok|exact Xq.exc|apply Xr.ok|exact Xr.exc|apply Xs.ok|exact Xs.exc|apply Xu.ok|exact Xu.exc|apply Xv.ok|exact Xv.exc|apply Xw.ok|exact Xw.exc|apply Xx.ok|exact Xx.exc|apply Xy.ok|exact Xy.exc|apply Xz.ok|exact Xz.exc|apply XA.ok|exact XA.exc|apply XB.ok|exact XB.exc|apply XC.ok|exact XC.exc|apply XD.ok|exact XD.exc|apply XE.ok|exact XE.exc|apply XF.ok|exact XF.exc|apply XG.ok|exact XG.exc|apply XH.ok|exact XH.exc|apply XI.ok|exact XI.exc|exact XJ.t|exact XJ.f|exact XJ.exc|apply XK.t|exact XK.f|exact XK.exc|exact XM.t|apply XM.f|exact XM.exc|apply XN.t|exact XN.f|apply XO.andT|exact XO.andF|apply XO.orF|exact XO.orT|apply XQ.next|exact XQ.ret|exact XQ.exc|exact XQ.cont|exact XQ.brk|apply XR.t|apply XR.f|exact XR.exc|exact XS.ok|apply XS.exc|exact XT|apply XU|apply XV.next|exact XV.ret|exact XV.exc|exact XW|exact XX)|exact XY rfl|apply XZ rfl Qa|apply XZ rfl Qb|exact (rfl : listFree _ = true)|exact X0 rfl|apply X1 rfl|exact X2 rfl|exact X3 rfl|exact (rfl : (_ : Option _) = some _)|decide)
            · rw [show ((p : Int) + 2) = ((p + 2 : Nat) : Int) by omega]
              unfold nD; simp
        · have e4 := ltI_f (a := (p : Int) + 1) (b := n) (by omega)
          rw [if_neg (fun q => h1 q.1)] at hX
          refine ⟨.exc 109 [some (.sh (.int n)), some (.sh (.list (nD ss))), some (.ow true (.list (nD fs))), some (.sh (.int p))], by repeat' (first|(with_reducible first|assumption|exact Qa|exact Qb|exact Qc|apply Qd|exact Qe|apply Qf|exact Qg|apply Qh|exact Qi|apply Qj|exact Qk|apply Ql|apply Qm|exact Qn|exact Qo|apply Qp|exact Qq|exact Qr|apply Qs|exact Qt|exact Qu|exact Qv|exact Qw|exact Qx|exact Qy|exact Qz|apply QA|apply QB|apply QC|apply QD|apply QE|apply QF|apply QG|apply QH|apply QI|apply QJ|apply QK|apply QL|apply QM|apply QN|apply QO|apply QP|apply QQ|apply QR|apply QS|apply QT|apply QU|apply QV|apply QW|apply QX|apply QY|apply QZ|apply Q0|apply Q1|apply Q2|apply Q3|apply Q4|apply Q5|apply Q6|apply Q7|apply Q8|apply Q9|apply Xa|apply Xb|apply Xc|apply Xd|apply Xe|apply Xf|apply Xg|apply Xh|apply Xi|exact Xj|apply Xk.ok|exact Xk.exc|apply Xl.ok|exact Xl.exc|apply Xm.ok|exact Xm.exc|apply Xn.ok|exact Xn.exc|apply Xo.ok|exact Xo.exc|apply Xp.ok|exact Xp.exc|apply Xq.ok|exact Xq.exc|apply Xr.ok|exact Xr.exc|apply Xs.ok|exact Xs.exc|apply Xu.ok|exact Xu.exc|apply Xv.ok|exact Xv.exc|apply Xw.ok|exact Xw.exc|apply Xx.ok|exact Xx.exc|apply Xy.ok|exact Xy.exc|apply Xz.ok|exact Xz.exc|apply XA.ok|exact XA.exc|apply XB.ok|exact XB.exc|apply XC.ok|exact XC.exc|apply XD.ok|exact XD.exc|apply XE.ok|exact XE.exc|apply XF.ok|exact XF.exc|apply XG.ok|exact XG.exc|apply XH.ok|exact XH.exc|apply XI.ok|exact XI.exc|exact XJ.t|exact XJ.f|exact XJ.exc|apply XK.t|exact XK.f|exact XK.exc|exact XM.t|apply XM.f|exact XM.exc|apply XN.t|exact XN.f|apply XO.andT|exact XO.andF|apply XO.orF|exact XO.orT|apply XQ.next|exact XQ.ret|exact XQ.exc|exact XQ.cont|exact XQ.brk|apply XR.t|apply XR.f|exact XR.exc|exact XS.ok|apply XS.exc|exact XT|apply XU|apply XV.next|exact XV.ret|exact XV.exc|exact XW|exact XX)|exact XY rfl|apply XZ rfl Qa|apply XZ rfl Qb|exact (rfl : listFree _ = true)|exact X0 rfl|apply X1 rfl|exact X2 rfl|exact X3 rfl|exact (rfl : (_ : Option _) = some _)|decide), ?_, ?_⟩
          · repeat' (first|(with_reducible first|assumption|exact Qa|exact Qb|exact Qc|apply Qd|exact Qe|apply Qf|exact Qg|apply Qh|exact Qi|apply Qj|exact Qk|apply Ql|apply Qm|exact Qn|exact Qo|apply Qp|exact Qq|exact Qr|apply Qs|exact Qt|exact Qu|exact Qv|exact Qw|exact Qx|exact Qy|exact Qz|apply QA|apply QB|apply QC|apply QD|apply QE|apply QF|apply QG|apply QH|apply QI|apply QJ|apply QK|apply QL|apply QM|apply QN|apply QO|apply QP|apply QQ|apply QR|apply QS|apply QT|apply QU|apply QV|apply QW|apply QX|apply QY|apply QZ|apply Q0|apply Q1|apply Q2|apply Q3|apply Q4|apply Q5|apply Q6|apply Q7|apply Q8|apply Q9|apply Xa|apply Xb|apply Xc|apply Xd|apply Xe|apply Xf|apply Xg|apply Xh|apply Xi|exact Xj|apply Xk.ok|exact Xk.exc|apply Xl.ok|exact Xl.exc|apply Xm.ok|exact Xm.exc|apply Xn.ok|exact Xn.exc|apply Xo.ok|exact Xo.exc|apply Xp.ok|exact Xp.exc|apply Xq.ok|exact Xq.exc|apply Xr.ok|exact Xr.exc|apply Xs.ok|exact Xs.exc|apply Xu.ok|exact Xu.exc|apply Xv.ok|exact Xv.exc|apply Xw.ok|exact Xw.exc|apply Xx.ok|exact Xx.exc|apply Xy.ok|exact Xy.exc|apply Xz.ok|exact Xz.exc|apply XA.ok|exact XA.exc|apply XB.ok|exact XB.exc|apply XC.ok|exact XC.exc|apply XD.ok|exact XD.exc|apply XE.ok|exact XE.exc|apply XF.ok|exact XF.exc|apply XG.ok|exact XG.exc|apply XH.ok|exact XH.exc|apply XI.ok|exact XI.exc|exact XJ.t|exact XJ.f|exact XJ.exc|apply XK.t|exact XK.f|exact XK.exc|exact XM.t|apply XM.f|exact XM.exc|apply XN.t|exact XN.f|apply XO.andT|exact XO.andF|apply XO.orF|exact XO.orT|apply XQ.next|exact XQ.ret|exact XQ.exc|exact XQ.cont|exact XQ.brk|apply XR.t|apply XR.f|exact XR.exc|exact XS.ok|apply XS.exc|exact XT|apply XU|apply XV.next|exact XV.ret|exact XV.exc|exact XW|exact XX)|exact XY rfl|apply XZ rfl Qa|apply XZ rfl Qb|exact (rfl : listFree _ = true)|exact X0 rfl|apply X1 rfl|exact X2 rfl|exact X3 rfl|exact (rfl : (_ : Option _) = some _)|decide)
          · show PbR n ss _ _
            rw [← hX]; exact ⟨_, rfl⟩
    · left
      rw [if_neg hp] at hX
      have e1 := ltI_f (a := (p : Int)) (b := n) (by omega)
      refine ⟨[some (.sh (.int n)), some (.sh (.list (nD ss))), some (.ow true (.list (nD fs))), some (.sh (.int p))], by repeat' (first|(with_reducible first|assumption|exact Qa|exact Qb|exact Qc|apply Qd|exact Qe|apply Qf|exact Qg|apply Qh|exact Qi|apply Qj|exact Qk|apply Ql|apply Qm|exact Qn|exact Qo|apply Qp|exact Qq|exact Qr|apply Qs|exact Qt|exact Qu|exact Qv|exact Qw|exact Qx|exact Qy|exact Qz|apply QA|apply QB|apply QC|apply QD|apply QE|apply QF|apply QG|apply QH|apply QI|apply QJ|apply QK|apply QL|apply QM|apply QN|apply QO|apply QP|apply QQ|apply QR|apply QS|apply QT|apply QU|apply QV|apply QW|apply QX|apply QY|apply QZ|apply Q0|apply Q1|apply Q2|apply Q3|apply Q4|apply Q5|apply Q6|apply Q7|apply Q8|apply Q9|apply Xa|apply Xb|apply Xc|apply Xd|apply Xe|apply Xf|apply Xg|apply Xh|apply Xi|exact Xj|apply Xk.ok|exact Xk.exc|apply Xl.ok|exact Xl.exc|apply Xm.ok|exact Xm.exc|apply Xn.ok|exact Xn.exc|apply Xo.ok|exact Xo.exc|apply Xp.ok|exact Xp.exc|apply Xq.ok|exact Xq.exc|apply Xr.ok|exact Xr.exc|apply Xs.ok|exact Xs.exc|apply Xu.ok|exact Xu.exc|apply Xv.ok|exact Xv.exc|apply Xw.ok|exact Xw.exc|apply Xx.ok|exact Xx.exc|apply Xy.ok|exact Xy.exc|apply Xz.ok|exact Xz.exc|apply XA.ok|exact XA.exc|apply XB.ok|exact XB.exc|apply XC.ok|exact XC.exc|apply XD.ok|exact XD.exc|apply XE.ok|exact XE.exc|apply XF.ok|exact XF.exc|apply XG.ok|exact XG.exc|apply XH.ok|exact XH.exc|apply XI.ok|exact XI.exc|exact XJ.t|exact XJ.f|exact XJ.exc|apply XK.t|exact XK.f|exact XK.exc|exact XM.t|apply XM.f|exact XM.exc|apply XN.t|exact XN.f|apply XO.andT|exact XO.andF|apply XO.orF|exact XO.orT|apply XQ.next|exact XQ.ret|exact XQ.exc|exact XQ.cont|exact XQ.brk|apply XR.t|apply XR.f|exact XR.exc|exact XS.ok|apply XS.exc|exact XT|apply XU|apply XV.next|exact XV.ret|exact XV.exc|exact XW|exact XX)|exact XY rfl|apply XZ rfl Qa|apply XZ rfl Qb|exact (rfl : listFree _ = true)|exact X0 rfl|apply X1 rfl|exact X2 rfl|exact X3 rfl|exact (rfl : (_ : Option _) = some _)|decide), ?_⟩
      rw [← hX]
      exact ⟨_, rfl, by omega⟩
noncomputable def np : Option (List Nat) → Option (List Nat)
  | some (p :: fs) => some (p :: fs)
  | _ => none
theorem F_pairs_beside_eq (K : Frag) {n : Nat} {ss : List Nat} (hn : n ≤ 12) : F_pairs_beside K [.int n, .list (nD ss)] = match np (pB n ss (n + 1) 0 []) with | some fs => .ok (.sh (.tup (nD fs))) | none => .exc 109 := by
  obtain ⟨r, h1, h2⟩ := beside_loop K (ss := ss) hn
  cases hX : pB n ss (n + 1) 0 [] with
  | none =>
    rw [hX] at h2
    obtain ⟨ρ, rfl⟩ := h2
    show _ = FOut.exc 109
    unfold F_pairs_beside f_pairs_beside
    refine' run_of [some (.sh (.int n)), some (.sh (.list (nD ss))), none, none] rfl rfl ?_ fin_exc
    repeat' (first|(with_reducible first|assumption|exact Qa|exact Qb|exact Qc|apply Qd|exact Qe|apply Qf|exact Qg|apply Qh|exact Qi|apply Qj|exact Qk|apply Ql|apply Qm|exact Qn|exact Qo|apply Qp|exact Qq|exact Qr|apply Qs|exact Qt|exact Qu|exact Qv|exact Qw|exact Qx|exact Qy|exact Qz|apply QA|apply QB|apply QC|apply QD|apply QE|apply QF|apply QG|apply QH|apply QI|apply QJ|apply QK|apply QL|apply QM|apply QN|apply QO|apply QP|apply QQ|apply QR|apply QS|apply QT|apply QU|apply QV|apply QW|apply QX|apply QY|apply QZ|apply Q0|apply Q1|apply Q2|apply Q3|apply Q4|apply Q5|apply Q6|apply Q7|apply Q8|apply Q9|apply Xa|apply Xb|apply Xc|apply Xd|apply Xe|apply Xf|apply Xg|apply Xh|apply Xi|exact Xj|apply Xk.ok|exact Xk.exc|apply Xl.ok|exact Xl.exc|apply Xm.ok|exact Xm.exc|apply Xn.ok|exact Xn.exc|apply Xo.ok|exact Xo.exc|apply Xp.ok|exact Xp.exc|apply Xq.ok|exact Xq.exc|apply Xr.ok|exact Xr.exc|apply Xs.ok|exact Xs.exc|apply Xu.ok|exact Xu.exc|apply Xv.ok|exact Xv.exc|apply Xw.ok|exact Xw.exc|apply Xx.ok|exact Xx.exc|apply Xy.ok|exact Xy.exc|apply Xz.ok|exact Xz.exc|apply XA.ok|exact XA.exc|apply XB.ok|exact XB.exc|apply XC.ok|exact XC.exc|apply XD.ok|exact XD.exc|apply XE.ok|exact XE.exc|apply XF.ok|exact XF.exc|apply XG.ok|exact XG.exc|apply XH.ok|exact XH.exc|apply XI.ok|exact XI.exc|exact XJ.t|exact XJ.f|exact XJ.exc|apply XK.t|exact XK.f|exact XK.exc|exact XM.t|apply XM.f|exact XM.exc|apply XN.t|exact XN.f|apply XO.andT|exact XO.andF|apply XO.orF|exact XO.orT|apply XQ.next|exact XQ.ret|exact XQ.exc|exact XQ.cont|exact XQ.brk|apply XR.t|apply XR.f|exact XR.exc|exact XS.ok|apply XS.exc|exact XT|apply XU|apply XV.next|exact XV.ret|exact XV.exc|exact XW|exact XX)|exact XY rfl|apply XZ rfl Qa|apply XZ rfl Qb|exact (rfl : listFree _ = true)|exact X0 rfl|apply X1 rfl|exact X2 rfl|exact X3 rfl|exact (rfl : (_ : Option _) = some _)|decide)
  | some fs =>
    rw [hX] at h2
    obtain ⟨v, rfl, hl⟩ := h2
    have e2 := lenI_list (ds := nD fs) (by rw [nD_len]; omega)
    rw [nD_len] at e2
    cases fs with
    | nil =>
      have e3 : eqI (.int (([] : List Nat).length : Int)) (.int 0) = some (.sh (.bool true)) := eqI_t 0
      show _ = FOut.exc 109
      unfold F_pairs_beside f_pairs_beside
      refine' run_of [some (.sh (.int n)), some (.sh (.list (nD ss))), none, none] rfl rfl ?_ fin_exc
      repeat' (first|(with_reducible first|assumption|exact Qa|exact Qb|exact Qc|apply Qd|exact Qe|apply Qf|exact Qg|apply Qh|exact Qi|apply Qj|exact Qk|apply Ql|apply Qm|exact Qn|exact Qo|apply Qp|exact Qq|exact Qr|apply Qs|exact Qt|exact Qu|exact Qv|exact Qw|exact Qx|exact Qy|exact Qz|apply QA|apply QB|apply QC|apply QD|apply QE|apply QF|apply QG|apply QH|apply QI|apply QJ|apply QK|apply QL|apply QM|apply QN|apply QO|apply QP|apply QQ|apply QR|apply QS|apply QT|apply QU|apply QV|apply QW|apply QX|apply QY|apply QZ|apply Q0|apply Q1|apply Q2|apply Q3|apply Q4|apply Q5|apply Q6|apply Q7|apply Q8|apply Q9|apply Xa|apply Xb|apply Xc|apply Xd|apply Xe|apply Xf|apply Xg|apply Xh|apply Xi|exact Xj|apply Xk.ok|exact Xk.exc|apply Xl.ok|exact Xl.exc|apply Xm.ok|exact Xm.exc|apply Xn.ok|exact Xn.exc|apply Xo.ok|exact Xo.exc|apply Xp.ok|exact Xp.exc|apply Xq.ok|exact Xq.exc|apply Xr.ok|exact Xr.exc|apply Xs.ok|exact Xs.exc|apply Xu.ok|exact Xu.exc|apply Xv.ok|exact Xv.exc|apply Xw.ok|exact Xw.exc|apply Xx.ok|exact Xx.exc|apply Xy.ok|exact Xy.exc|apply Xz.ok|exact Xz.exc|apply XA.ok|exact XA.exc|apply XB.ok|exact XB.exc|apply XC.ok|exact XC.exc|apply XD.ok|exact XD.exc|apply XE.ok|exact XE.exc|apply XF.ok|exact XF.exc|apply XG.ok|exact XG.exc|apply XH.ok|exact XH.exc|apply XI.ok|exact XI.exc|exact XJ.t|exact XJ.f|exact XJ.exc|apply XK.t|exact XK.f|exact XK.exc|exact XM.t|apply XM.f|exact XM.exc|apply XN.t|exact XN.f|apply XO.andT|exact XO.andF|apply XO.orF|exact XO.orT|apply XQ.next|exact XQ.ret|exact XQ.exc|exact XQ.cont|exact XQ.brk|apply XR.t|apply XR.f|exact XR.exc|exact XS.ok|apply XS.exc|exact XT|apply XU|apply XV.next|exact XV.ret|exact XV.exc|exact XW|exact XX)|exact XY rfl|apply XZ rfl Qa|apply XZ rfl Qb|exact (rfl : listFree _ = true)|exact X0 rfl|apply X1 rfl|exact X2 rfl|exact X3 rfl|exact (rfl : (_ : Option _) = some _)|decide)
    | cons p fs =>
      have e3 : eqI (.int ((p :: fs).length : Int)) (.int 0) = some (.sh (.bool false)) := eqI_f (by simp; omega)
      have e4 := tuple_list (ds := nD (p :: fs)) (by rw [nD_len]; omega)
      show _ = FOut.ok (.sh (.tup (nD (p :: fs))))
      unfold F_pairs_beside f_pairs_beside
      refine' run_of [some (.sh (.int n)), some (.sh (.list (nD ss))), none, none] rfl rfl ?_ fin_ret
      repeat' (first|(with_reducible first|assumption|exact Qa|exact Qb|exact Qc|apply Qd|exact Qe|apply Qf|exact Qg|apply Qh|exact Qi|apply Qj|exact Qk|apply Ql|apply Qm|exact Qn|exact Qo|apply Qp|exact Qq|exact Qr|apply Qs|exact Qt|exact Qu|exact Qv|exact Qw|exact Qx|exact Qy|exact Qz|apply QA|apply QB|apply QC|apply QD|apply QE|apply QF|apply QG|apply QH|apply QI|apply QJ|apply QK|apply QL|apply QM|apply QN|apply QO|apply QP|apply QQ|apply QR|apply QS|apply QT|apply QU|apply QV|apply QW|apply QX|apply QY|apply QZ|apply Q0|apply Q1|apply Q2|apply Q3|apply Q4|apply Q5|apply Q6|apply Q7|apply Q8|apply Q9|apply Xa|apply Xb|apply Xc|apply Xd|apply Xe|apply Xf|apply Xg|apply Xh|apply Xi|exact Xj|apply Xk.ok|exact Xk.exc|apply Xl.ok|exact Xl.exc|apply Xm.ok|exact Xm.exc|apply Xn.ok|exact Xn.exc|apply Xo.ok|exact Xo.exc|apply Xp.ok|exact Xp.exc|apply Xq.ok|exact Xq.exc|apply Xr.ok|exact Xr.exc|apply Xs.ok|exact Xs.exc|apply Xu.ok|exact Xu.exc|apply Xv.ok|exact Xv.exc|apply Xw.ok|exact Xw.exc|apply Xx.ok|exact Xx.exc|apply Xy.ok|exact Xy.exc|apply Xz.ok|exact Xz.exc|apply XA.ok|exact XA.exc|apply XB.ok|exact XB.exc|apply XC.ok|exact XC.exc|apply XD.ok|exact XD.exc|apply XE.ok|exact XE.exc|apply XF.ok|exact XF.exc|apply XG.ok|exact XG.exc|apply XH.ok|exact XH.exc|apply XI.ok|exact XI.exc|exact XJ.t|exact XJ.f|exact XJ.exc|apply XK.t|exact XK.f|exact XK.exc|exact XM.t|apply XM.f|exact XM.exc|apply XN.t|exact XN.f|apply XO.andT|exact XO.andF|apply XO.orF|exact XO.orT|apply XQ.next|exact XQ.ret|exact XQ.exc|exact XQ.cont|exact XQ.brk|apply XR.t|apply XR.f|exact XR.exc|exact XS.ok|apply XS.exc|exact XT|apply XU|apply XV.next|exact XV.ret|exact XV.exc|exact XW|exact XX)|exact XY rfl|apply XZ rfl Qa|apply XZ rfl Qb|exact (rfl : listFree _ = true)|exact X0 rfl|apply X1 rfl|exact X2 rfl|exact X3 rfl|exact (rfl : (_ : Option _) = some _)|decide)
end Mine
end

section
set_option Elab.async false
set_option maxRecDepth 100000
set_option maxHeartbeats 4000000
set_option linter.unusedSimpArgs false
set_option linter.unusedVariables false
namespace Mine
open PySem PySem.W
noncomputable def ixN (c : Nat) : Nat := sg.findIdx (· == c)
theorem ixs_nD (cs : List Nat) : iL (cs.map idxOf) = nD (cs.map ixN) := by unfold iL nD; rw [List.map_map, List.map_map]; rfl
noncomputable def Rising (ss : List Nat) : Prop := ∀ i, 1 ≤ i → i < ss.length → ss.getD (i - 1) 0 < ss.getD i 0
theorem rangeL_from (m : Nat) : rangeL 1 m 1 = nD (List.range' 1 (m - 1)) := by
  unfold rangeL rangeN nD
  rw [rangeSize_one, List.range'_eq_map_range, List.map_map]
  have : (if (1 : Int) < m then (m : Int) - 1 else 0).toNat = m - 1 := by split <;> omega
  rw [this]
  apply List.map_congr_left
  intro i _
  show D.int (1 + (i : Int) * 1) = D.int ((1 + i : Nat) : Int)
  congr 1; omega
theorem items_from (m : Nat) (h : m ≤ 1000) : itemsD (.range 1 m 1) = some (nD (List.range' 1 (m - 1))) := by
  have : rangeFit 1 m 1 = true := by
    unfold rangeFit
    rw [small_one (by omega) (by omega) (by omega) (by omega), rangeSize_one]
    simp only [Bool.true_and, Bool.and_eq_true, decide_eq_true_eq]
    constructor <;> split <;> omega
  rw [itemsD, this, if_pos rfl, rangeL_from]
theorem idx_nDl {ss : List Nat} {j : Nat} (h : j < ss.length) (hl : ss.length ≤ 1000) : idxI (.list (nD ss)) (.int j) = some (.sh (.int (ss.getD j 0 : Nat))) := by
  refine idxI_list (by omega) (by omega) ?_
  rw [Int.toNat_natCast]
  unfold nD
  rw [List.getElem?_map, List.getElem?_eq_getElem h, List.getD_eq_getElem?_getD, List.getElem?_eq_getElem h]; rfl
theorem rise_loop (K : Frag) {dn dt : D} {ss : List Nat} (hl : ss.length ≤ 1000) : ∃ r, forN (bName 3) (sSeq (sIf (eTest2 geI (eVal (eOp2 idxI (eOp 2) (eVal (eOp2 subI (eOp 3) (eVal (eConst (.int 1))))))) (eVal (eOp2 idxI (eOp 2) (eOp 3)))) (sSeq (sRaise 109 (eCons (eConst (.str "places that don't rise")) eNil)) sNil) sNil) sNil) (nD (List.range' 1 (ss.length - 1))) [some (.sh dn), some (.sh dt), some (.ow true (.list (nD ss))), none] = r ∧ ((Rising ss ∧ ∃ v, r = .ok .next [some (.sh dn), some (.sh dt), some (.ow true (.list (nD ss))), v]) ∨ (¬ Rising ss ∧ ∃ ρ, r = .exc 109 ρ)) := by
  refine for_ex (fun ρ ds => ∃ (k : Nat) (v : Option T), ρ = [some (.sh dn), some (.sh dt), some (.ow true (.list (nD ss))), v] ∧ ds = nD (List.range' k (ss.length - k)) ∧ 1 ≤ k ∧ ∀ i, 1 ≤ i → i < k → i < ss.length → ss.getD (i - 1) 0 < ss.getD i 0) _ ?_ ?_ (nD (List.range' 1 (ss.length - 1))) _ ⟨1, none, rfl, rfl, Nat.le_refl _, fun i h1 h2 => by omega⟩
  · rintro ρ ⟨k, v, rfl, h1, h2, h3⟩
    have hz : ss.length - k = 0 := by
      have : (nD (List.range' k (ss.length - k))).length = 0 := by rw [← h1]; rfl
      rwa [nD_len, List.length_range'] at this
    exact .inl ⟨fun i a b => h3 i a (by omega) b, v, rfl⟩
  · rintro ρ d ds ⟨k, v, rfl, h1, h2, h3⟩
    have hk : k < ss.length := by
      have : (nD (List.range' k (ss.length - k))).length = ds.length + 1 := by rw [← h1]; rfl
      rw [nD_len, List.length_range'] at this; omega
    rw [show ss.length - k = (ss.length - (k + 1)) + 1 by omega, List.range'_succ] at h1
    cases h1
    refine ⟨[some (.sh dn), some (.sh dt), some (.ow true (.list (nD ss))), some (.sh (.int k))], ?_⟩
    have e1 := idx_nDl (ss := ss) (j := k) hk hl
    have e2 := idx_nDl (ss := ss) (j := k - 1) (by omega) hl
    rw [show ((k - 1 : Nat) : Int) = (k : Int) - 1 by omega] at e2
    by_cases hr : ss.getD (k - 1) 0 < ss.getD k 0
    · have e3 := geI_f (a := ((ss.getD (k - 1) 0 : Nat) : Int)) (b := ((ss.getD k 0 : Nat) : Int)) (by omega)
      refine ⟨.ok .next [some (.sh dn), some (.sh dt), some (.ow true (.list (nD ss))), some (.sh (.int k))], rfl, ?_, k + 1, _, rfl, rfl, by omega, fun i a b c => ?_⟩
      · repeat' (first|(with_reducible first|assumption|exact Qa|exact Qb|exact Qc|apply Qd|exact Qe|apply Qf|exact Qg|apply Qh|exact Qi|apply Qj|exact Qk|apply Ql|apply Qm|exact Qn|exact Qo|apply Qp|exact Qq|exact Qr|apply Qs|exact Qt|exact Qu|exact Qv|exact Qw|exact Qx|exact Qy|exact Qz|apply QA|apply QB|apply QC|apply QD|apply QE|apply QF|apply QG|apply QH|apply QI|apply QJ|apply QK|apply QL|apply QM|apply QN|apply QO|apply QP|apply QQ|apply QR|apply QS|apply QT|apply QU|apply QV|apply QW|apply QX|apply QY|apply QZ|apply Q0|apply Q1|apply Q2|apply Q3|apply Q4|apply Q5|apply Q6|apply Q7|apply Q8|apply Q9|apply Xa|apply Xb|apply Xc|apply Xd|apply Xe|apply Xf|apply Xg|apply Xh|apply Xi|exact Xj|apply Xk.ok|exact Xk.exc|apply Xl.ok|exact Xl.exc|apply Xm.ok|exact Xm.exc|apply Xn.ok|exact Xn.exc|apply Xo.ok|exact Xo.exc|apply Xp.ok|exact Xp.exc|apply Xq.ok|exact Xq.exc|apply Xr.ok|exact Xr.exc|apply Xs.ok|exact Xs.exc|apply Xu.ok|exact Xu.exc|apply Xv.ok|exact Xv.exc|apply Xw.ok|exact Xw.exc|apply Xx.ok|exact Xx.exc|apply Xy.ok|exact Xy.exc|apply Xz.ok|exact Xz.exc|apply XA.ok|exact XA.exc|apply XB.ok|exact XB.exc|apply XC.ok|exact XC.exc|apply XD.ok|exact XD.exc|apply XE.ok|exact XE.exc|apply XF.ok|exact XF.exc|apply XG.ok|exact XG.exc|apply XH.ok|exact XH.exc|apply XI.ok|exact XI.exc|exact XJ.t|exact XJ.f|exact XJ.exc|apply XK.t|exact XK.f|exact XK.exc|exact XM.t|apply XM.f|exact XM.exc|apply XN.t|exact XN.f|apply XO.andT|exact XO.andF|apply XO.orF|exact XO.orT|apply XQ.next|exact XQ.ret|exact XQ.exc|exact XQ.cont|exact XQ.brk|apply XR.t|apply XR.f|exact XR.exc|exact XS.ok|apply XS.exc|exact XT|apply XU|apply XV.next|exact XV.ret|exact XV.exc|exact XW|exact XX)|exact XY rfl|apply XZ rfl Qa|apply XZ rfl Qb|exact (rfl : listFree _ = true)|exact X0 rfl|apply X1 rfl|exact X2 rfl|exact X3 rfl|exact (rfl : (_ : Option _) = some _)|decide)
      · by_cases hi : i = k
        · subst hi; exact hr
        · exact h3 i a (by omega) c
    · have e3 := geI_t (a := ((ss.getD (k - 1) 0 : Nat) : Int)) (b := ((ss.getD k 0 : Nat) : Int)) (by omega)
      refine ⟨.exc 109 [some (.sh dn), some (.sh dt), some (.ow true (.list (nD ss))), some (.sh (.int k))], rfl, ?_, .inr ⟨fun q => hr (q k h2 hk), _, rfl⟩⟩
      repeat' (first|(with_reducible first|assumption|exact Qa|exact Qb|exact Qc|apply Qd|exact Qe|apply Qf|exact Qg|apply Qh|exact Qi|apply Qj|exact Qk|apply Ql|apply Qm|exact Qn|exact Qo|apply Qp|exact Qq|exact Qr|apply Qs|exact Qt|exact Qu|exact Qv|exact Qw|exact Qx|exact Qy|exact Qz|apply QA|apply QB|apply QC|apply QD|apply QE|apply QF|apply QG|apply QH|apply QI|apply QJ|apply QK|apply QL|apply QM|apply QN|apply QO|apply QP|apply QQ|apply QR|apply QS|apply QT|apply QU|apply QV|apply QW|apply QX|apply QY|apply QZ|apply Q0|apply Q1|apply Q2|apply Q3|apply Q4|apply Q5|apply Q6|apply Q7|apply Q8|apply Q9|apply Xa|apply Xb|apply Xc|apply Xd|apply Xe|apply Xf|apply Xg|apply Xh|apply Xi|exact Xj|apply Xk.ok|exact Xk.exc|apply Xl.ok|exact Xl.exc|apply Xm.ok|exact Xm.exc|apply Xn.ok|exact Xn.exc|apply Xo.ok|exact Xo.exc|apply Xp.ok|exact Xp.exc|apply Xq.ok|exact Xq.exc|apply Xr.ok|exact Xr.exc|apply Xs.ok|exact Xs.exc|apply Xu.ok|exact Xu.exc|apply Xv.ok|exact Xv.exc|apply Xw.ok|exact Xw.exc|apply Xx.ok|exact Xx.exc|apply Xy.ok|exact Xy.exc|apply Xz.ok|exact Xz.exc|apply XA.ok|exact XA.exc|apply XB.ok|exact XB.exc|apply XC.ok|exact XC.exc|apply XD.ok|exact XD.exc|apply XE.ok|exact XE.exc|apply XF.ok|exact XF.exc|apply XG.ok|exact XG.exc|apply XH.ok|exact XH.exc|apply XI.ok|exact XI.exc|exact XJ.t|exact XJ.f|exact XJ.exc|apply XK.t|exact XK.f|exact XK.exc|exact XM.t|apply XM.f|exact XM.exc|apply XN.t|exact XN.f|apply XO.andT|exact XO.andF|apply XO.orF|exact XO.orT|apply XQ.next|exact XQ.ret|exact XQ.exc|exact XQ.cont|exact XQ.brk|apply XR.t|apply XR.f|exact XR.exc|exact XS.ok|apply XS.exc|exact XT|apply XU|apply XV.next|exact XV.ret|exact XV.exc|exact XW|exact XX)|exact XY rfl|apply XZ rfl Qa|apply XZ rfl Qb|exact (rfl : listFree _ = true)|exact X0 rfl|apply X1 rfl|exact X2 rfl|exact X3 rfl|exact (rfl : (_ : Option _) = some _)|decide)
noncomputable def CoOk (n : Nat) (cs : List Nat) : Prop := (∀ c ∈ cs, c ∈ sg) ∧ cs ≠ [] ∧ (cs.map ixN).getD (cs.length - 1) 0 < n ∧ Rising (cs.map ixN)
theorem idx_lastl {ds : List D} {d : D} (h : 0 < ds.length) (hl : ds.length ≤ 1000) (e : ds[ds.length - 1]? = some d) : idxI (.list ds) (.int (-1)) = some (.sh d) := by
  have : idxD ds (-1) = some d := by
    unfold idxD
    rw [if_neg (by decide), if_pos (by omega), show ((-1 : Int) + ds.length).toNat = ds.length - 1 by omega, e]
  rw [idxI, this]; rfl
theorem nD_get' {cs : List Nat} {j : Nat} (h : j < cs.length) : (nD cs)[j]? = some (.int (cs.getD j 0 : Nat)) := by
  unfold nD
  rw [List.getElem?_map, List.getElem?_eq_getElem h, List.getD_eq_getElem?_getD, List.getElem?_eq_getElem h]; rfl
theorem F_change_of_minus (K : Frag) {n : Nat} (h3 : 3 ≤ n) (h12 : n ≤ 12) : F_change_of K [.int n, .str (txt [45])] = F_pairs_beside K [.int n, .list (nD [])] := by
  have e1 := F_need_bells_ok K n (by omega) (by omega)
  have e2 := eqI_txt (a := [45]) (b := [45]) (by decide) (by decide)
  rw [decide_eq_true rfl, ← minus_txt] at e2
  have e3 := F_pairs_beside_eq K (ss := []) h12
  rw [← minus_txt]
  cases hX : np (pB n [] (n + 1) 0 []) with
  | none =>
    rw [hX] at e3
    have e3' : F_pairs_beside K [.int n, .list []] = .exc 109 := e3
    rw [e3]
    unfold F_change_of f_change_of
    refine' run_of [some (.sh (.int n)), some (.sh (.str "-")), none, none] rfl rfl ?_ fin_exc
    repeat' (first|(with_reducible first|assumption|exact Qa|exact Qb|exact Qc|apply Qd|exact Qe|apply Qf|exact Qg|apply Qh|exact Qi|apply Qj|exact Qk|apply Ql|apply Qm|exact Qn|exact Qo|apply Qp|exact Qq|exact Qr|apply Qs|exact Qt|exact Qu|exact Qv|exact Qw|exact Qx|exact Qy|exact Qz|apply QA|apply QB|apply QC|apply QD|apply QE|apply QF|apply QG|apply QH|apply QI|apply QJ|apply QK|apply QL|apply QM|apply QN|apply QO|apply QP|apply QQ|apply QR|apply QS|apply QT|apply QU|apply QV|apply QW|apply QX|apply QY|apply QZ|apply Q0|apply Q1|apply Q2|apply Q3|apply Q4|apply Q5|apply Q6|apply Q7|apply Q8|apply Q9|apply Xa|apply Xb|apply Xc|apply Xd|apply Xe|apply Xf|apply Xg|apply Xh|apply Xi|exact Xj|apply Xk.ok|exact Xk.exc|apply Xl.ok|exact Xl.exc|apply Xm.ok|exact Xm.exc|apply Xn.ok|exact Xn.exc|apply Xo.ok|exact Xo.exc|apply Xp.ok|exact Xp.exc|apply Xq.ok|exact Xq.exc|apply Xr.ok|exact Xr.exc|apply Xs.ok|exact Xs.exc|apply Xu.ok|exact Xu.exc|apply Xv.ok|exact Xv.exc|apply Xw.ok|exact Xw.exc|apply Xx.ok|exact Xx.exc|apply Xy.ok|exact Xy.exc|apply Xz.ok|exact Xz.exc|apply XA.ok|exact XA.exc|apply XB.ok|exact XB.exc|apply XC.ok|exact XC.exc|apply XD.ok|exact XD.exc|apply XE.ok|exact XE.exc|apply XF.ok|exact XF.exc|apply XG.ok|exact XG.exc|apply XH.ok|exact XH.exc|apply XI.ok|exact XI.exc|exact XJ.t|exact XJ.f|exact XJ.exc|apply XK.t|exact XK.f|exact XK.exc|exact XM.t|apply XM.f|exact XM.exc|apply XN.t|exact XN.f|apply XO.andT|exact XO.andF|apply XO.orF|exact XO.orT|apply XQ.next|exact XQ.ret|exact XQ.exc|exact XQ.cont|exact XQ.brk|apply XR.t|apply XR.f|exact XR.exc|exact XS.ok|apply XS.exc|exact XT|apply XU|apply XV.next|exact XV.ret|exact XV.exc|exact XW|exact XX)|exact XY rfl|apply XZ rfl Qa|apply XZ rfl Qb|exact (rfl : listFree _ = true)|exact X0 rfl|apply X1 rfl|exact X2 rfl|exact X3 rfl|exact (rfl : (_ : Option _) = some _)|decide)
  | some fs =>
    rw [hX] at e3
    have e3' : F_pairs_beside K [.int n, .list []] = .ok (.sh (.tup (nD fs))) := e3
    have lf := lf_nD (cs := fs)
    rw [e3]
    unfold F_change_of f_change_of
    refine' run_of [some (.sh (.int n)), some (.sh (.str "-")), none, none] rfl rfl ?_ fin_ret
    repeat' (first|(with_reducible first|assumption|exact Qa|exact Qb|exact Qc|apply Qd|exact Qe|apply Qf|exact Qg|apply Qh|exact Qi|apply Qj|exact Qk|apply Ql|apply Qm|exact Qn|exact Qo|apply Qp|exact Qq|exact Qr|apply Qs|exact Qt|exact Qu|exact Qv|exact Qw|exact Qx|exact Qy|exact Qz|apply QA|apply QB|apply QC|apply QD|apply QE|apply QF|apply QG|apply QH|apply QI|apply QJ|apply QK|apply QL|apply QM|apply QN|apply QO|apply QP|apply QQ|apply QR|apply QS|apply QT|apply QU|apply QV|apply QW|apply QX|apply QY|apply QZ|apply Q0|apply Q1|apply Q2|apply Q3|apply Q4|apply Q5|apply Q6|apply Q7|apply Q8|apply Q9|apply Xa|apply Xb|apply Xc|apply Xd|apply Xe|apply Xf|apply Xg|apply Xh|apply Xi|exact Xj|apply Xk.ok|exact Xk.exc|apply Xl.ok|exact Xl.exc|apply Xm.ok|exact Xm.exc|apply Xn.ok|exact Xn.exc|apply Xo.ok|exact Xo.exc|apply Xp.ok|exact Xp.exc|apply Xq.ok|exact Xq.exc|apply Xr.ok|exact Xr.exc|apply Xs.ok|exact Xs.exc|apply Xu.ok|exact Xu.exc|apply Xv.ok|exact Xv.exc|apply Xw.ok|exact Xw.exc|apply Xx.ok|exact Xx.exc|apply Xy.ok|exact Xy.exc|apply Xz.ok|exact Xz.exc|apply XA.ok|exact XA.exc|apply XB.ok|exact XB.exc|apply XC.ok|exact XC.exc|apply XD.ok|exact XD.exc|apply XE.ok|exact XE.exc|apply XF.ok|exact XF.exc|apply XG.ok|exact XG.exc|apply XH.ok|exact XH.exc|apply XI.ok|exact XI.exc|exact XJ.t|exact XJ.f|exact XJ.exc|apply XK.t|exact XK.f|exact XK.exc|exact XM.t|apply XM.f|exact XM.exc|apply XN.t|exact XN.f|apply XO.andT|exact XO.andF|apply XO.orF|exact XO.orT|apply XQ.next|exact XQ.ret|exact XQ.exc|exact XQ.cont|exact XQ.brk|apply XR.t|apply XR.f|exact XR.exc|exact XS.ok|apply XS.exc|exact XT|apply XU|apply XV.next|exact XV.ret|exact XV.exc|exact XW|exact XX)|exact XY rfl|apply XZ rfl Qa|apply XZ rfl Qb|exact (rfl : listFree _ = true)|exact X0 rfl|apply X1 rfl|exact X2 rfl|exact X3 rfl|exact (rfl : (_ : Option _) = some _)|decide)
theorem F_change_of_txt (K : Frag) {n : Nat} {cs : List Nat} (h3 : 3 ≤ n) (h12 : n ≤ 12) (hc : ∀ c ∈ cs, c < 128) (hl : cs.length ≤ 1000) (hm : cs ≠ [45]) : (CoOk n cs → F_change_of K [.int n, .str (txt cs)] = F_pairs_beside K [.int n, .list (nD (cs.map ixN))]) ∧ (¬ CoOk n cs → F_change_of K [.int n, .str (txt cs)] = .exc 109) := by
  have e1 := F_need_bells_ok K n (by omega) (by omega)
  have e2 := eqI_txt (a := cs) (b := [45]) hc (by decide)
  rw [decide_eq_false hm, ← minus_txt] at e2
  have e3 := F_places_of_txt K hl
  have hlen : (cs.map ixN).length = cs.length := List.length_map ..
  by_cases hs : ∀ c ∈ cs, c ∈ sg
  · rw [all_sg.mpr hs, if_pos rfl, ixs_nD] at e3
    have e4 := lenI_list (ds := nD (cs.map ixN)) (by rw [nD_len, hlen]; omega)
    rw [nD_len, hlen] at e4
    by_cases hz : cs = []
    · refine ⟨fun q => absurd hz q.2.1, fun _ => ?_⟩
      subst hz
      have e5 : eqI (.int (([] : List Nat).length : Int)) (.int 0) = some (.sh (.bool true)) := eqI_t 0
      unfold F_change_of f_change_of
      refine' run_of [some (.sh (.int n)), some (.sh (.str (txt []))), none, none] rfl rfl ?_ fin_exc
      repeat' (first|(with_reducible first|assumption|exact Qa|exact Qb|exact Qc|apply Qd|exact Qe|apply Qf|exact Qg|apply Qh|exact Qi|apply Qj|exact Qk|apply Ql|apply Qm|exact Qn|exact Qo|apply Qp|exact Qq|exact Qr|apply Qs|exact Qt|exact Qu|exact Qv|exact Qw|exact Qx|exact Qy|exact Qz|apply QA|apply QB|apply QC|apply QD|apply QE|apply QF|apply QG|apply QH|apply QI|apply QJ|apply QK|apply QL|apply QM|apply QN|apply QO|apply QP|apply QQ|apply QR|apply QS|apply QT|apply QU|apply QV|apply QW|apply QX|apply QY|apply QZ|apply Q0|apply Q1|apply Q2|apply Q3|apply Q4|apply Q5|apply Q6|apply Q7|apply Q8|apply Q9|apply Xa|apply Xb|apply Xc|apply Xd|apply Xe|apply Xf|apply Xg|apply Xh|apply Xi|exact Xj|apply Xk.ok|exact Xk.exc|apply Xl.ok|exact Xl.exc|apply Xm.ok|exact Xm.exc|apply Xn.ok|exact Xn.exc|apply Xo.ok|exact Xo.exc|apply Xp.ok|exact Xp.exc|apply Xq.ok|exact Xq.exc|apply Xr.ok|exact Xr.exc|apply Xs.ok|exact Xs.exc|apply Xu.ok|exact Xu.exc|apply Xv.ok|exact Xv.exc|apply Xw.ok|exact Xw.exc|apply Xx.ok|exact Xx.exc|apply Xy.ok|exact Xy.exc|apply Xz.ok|exact Xz.exc|apply XA.ok|exact XA.exc|apply XB.ok|exact XB.exc|apply XC.ok|exact XC.exc|apply XD.ok|exact XD.exc|apply XE.ok|exact XE.exc|apply XF.ok|exact XF.exc|apply XG.ok|exact XG.exc|apply XH.ok|exact XH.exc|apply XI.ok|exact XI.exc|exact XJ.t|exact XJ.f|exact XJ.exc|apply XK.t|exact XK.f|exact XK.exc|exact XM.t|apply XM.f|exact XM.exc|apply XN.t|exact XN.f|apply XO.andT|exact XO.andF|apply XO.orF|exact XO.orT|apply XQ.next|exact XQ.ret|exact XQ.exc|exact XQ.cont|exact XQ.brk|apply XR.t|apply XR.f|exact XR.exc|exact XS.ok|apply XS.exc|exact XT|apply XU|apply XV.next|exact XV.ret|exact XV.exc|exact XW|exact XX)|exact XY rfl|apply XZ rfl Qa|apply XZ rfl Qb|exact (rfl : listFree _ = true)|exact X0 rfl|apply X1 rfl|exact X2 rfl|exact X3 rfl|exact (rfl : (_ : Option _) = some _)|decide)
    · have hp := List.length_pos_iff.mpr hz
      have e5 := eqI_f (a := (cs.length : Int)) (b := 0) (by omega)
      have e6 : idxI (.list (nD (cs.map ixN))) (.int (-1)) = some (.sh (.int ((cs.map ixN).getD (cs.length - 1) 0 : Nat))) := idx_lastl (by rw [nD_len, hlen]; exact hp) (by rw [nD_len, hlen]; exact hl) (by rw [nD_len, hlen]; exact nD_get' (by rw [hlen]; omega))
      have e7 : negI (.int 1) = some (.sh (.int (-1))) := rfl
      by_cases hn : (cs.map ixN).getD (cs.length - 1) 0 < n
      · have e8 := geI_f (a := (((cs.map ixN).getD (cs.length - 1) 0 : Nat) : Int)) (b := n) (by omega)
        have e9 := items_from cs.length hl
        obtain ⟨r, g1, g2⟩ := rise_loop K (dn := .int n) (dt := .str (txt cs)) (ss := cs.map ixN) (by rw [hlen]; exact hl)
        rw [hlen] at g1
        rcases g2 with ⟨hr, v, rfl⟩ | ⟨hr, ρ, rfl⟩
        · refine ⟨fun _ => ?_, fun q => absurd ⟨hs, hz, hn, hr⟩ q⟩
          have e10 := F_pairs_beside_eq K (ss := cs.map ixN) h12
          cases hX : np (pB n (cs.map ixN) (n + 1) 0 []) with
          | none =>
            rw [hX] at e10
            have e10' : F_pairs_beside K [.int n, .list (nD (cs.map ixN))] = .exc 109 := e10
            rw [e10']
            unfold F_change_of f_change_of
            refine' run_of [some (.sh (.int n)), some (.sh (.str (txt cs))), none, none] rfl rfl ?_ fin_exc
            repeat' (first|(with_reducible first|assumption|exact Qa|exact Qb|exact Qc|apply Qd|exact Qe|apply Qf|exact Qg|apply Qh|exact Qi|apply Qj|exact Qk|apply Ql|apply Qm|exact Qn|exact Qo|apply Qp|exact Qq|exact Qr|apply Qs|exact Qt|exact Qu|exact Qv|exact Qw|exact Qx|exact Qy|exact Qz|apply QA|apply QB|apply QC|apply QD|apply QE|apply QF|apply QG|apply QH|apply QI|apply QJ|apply QK|apply QL|apply QM|apply QN|apply QO|apply QP|apply QQ|apply QR|apply QS|apply QT|apply QU|apply QV|apply QW|apply QX|apply QY|apply QZ|apply Q0|apply Q1|apply Q2|apply Q3|apply Q4|apply Q5|apply Q6|apply Q7|apply Q8|apply Q9|apply Xa|apply Xb|apply Xc|apply Xd|apply Xe|apply Xf|apply Xg|apply Xh|apply Xi|exact Xj|apply Xk.ok|exact Xk.exc|apply Xl.ok|exact Xl.exc|apply Xm.ok|exact Xm.exc|apply Xn.ok|exact Xn.exc|apply Xo.ok|exact Xo.exc|apply Xp.ok|exact Xp.exc|apply Xq.ok|exact Xq.exc|apply Xr.ok|exact Xr.exc|apply Xs.ok|exact Xs.exc|apply Xu.ok|exact Xu.exc|apply Xv.ok|exact Xv.exc|apply Xw.ok|exact Xw.exc|apply Xx.ok|exact Xx.exc|apply Xy.ok|exact Xy.exc|apply Xz.ok|exact Xz.exc|apply XA.ok|exact XA.exc|apply XB.ok|exact XB.exc|apply XC.ok|exact XC.exc|apply XD.ok|exact XD.exc|apply XE.ok|exact XE.exc|apply XF.ok|exact XF.exc|apply XG.ok|exact XG.exc|apply XH.ok|exact XH.exc|apply XI.ok|exact XI.exc|exact XJ.t|exact XJ.f|exact XJ.exc|apply XK.t|exact XK.f|exact XK.exc|exact XM.t|apply XM.f|exact XM.exc|apply XN.t|exact XN.f|apply XO.andT|exact XO.andF|apply XO.orF|exact XO.orT|apply XQ.next|exact XQ.ret|exact XQ.exc|exact XQ.cont|exact XQ.brk|apply XR.t|apply XR.f|exact XR.exc|exact XS.ok|apply XS.exc|exact XT|apply XU|apply XV.next|exact XV.ret|exact XV.exc|exact XW|exact XX)|exact XY rfl|apply XZ rfl Qa|apply XZ rfl Qb|exact (rfl : listFree _ = true)|exact X0 rfl|apply X1 rfl|exact X2 rfl|exact X3 rfl|exact (rfl : (_ : Option _) = some _)|decide)
          | some fs =>
            rw [hX] at e10
            have e10' : F_pairs_beside K [.int n, .list (nD (cs.map ixN))] = .ok (.sh (.tup (nD fs))) := e10
            have lf := lf_nD (cs := fs)
            rw [e10']
            unfold F_change_of f_change_of
            refine' run_of [some (.sh (.int n)), some (.sh (.str (txt cs))), none, none] rfl rfl ?_ fin_ret
            repeat' (first|(with_reducible first|assumption|exact Qa|exact Qb|exact Qc|apply Qd|exact Qe|apply Qf|exact Qg|apply Qh|exact Qi|apply Qj|exact Qk|apply Ql|apply Qm|exact Qn|exact Qo|apply Qp|exact Qq|exact Qr|apply Qs|exact Qt|exact Qu|exact Qv|exact Qw|exact Qx|exact Qy|exact Qz|apply QA|apply QB|apply QC|apply QD|apply QE|apply QF|apply QG|apply QH|apply QI|apply QJ|apply QK|apply QL|apply QM|apply QN|apply QO|apply QP|apply QQ|apply QR|apply QS|apply QT|apply QU|apply QV|apply QW|apply QX|apply QY|apply QZ|apply Q0|apply Q1|apply Q2|apply Q3|apply Q4|apply Q5|apply Q6|apply Q7|apply Q8|apply Q9|apply Xa|apply Xb|apply Xc|apply Xd|apply Xe|apply Xf|apply Xg|apply Xh|apply Xi|exact Xj|apply Xk.ok|exact Xk.exc|apply Xl.ok|exact Xl.exc|apply Xm.ok|exact Xm.exc|apply Xn.ok|exact Xn.exc|apply Xo.ok|exact Xo.exc|apply Xp.ok|exact Xp.exc|apply Xq.ok|exact Xq.exc|apply Xr.ok|exact Xr.exc|apply Xs.ok|exact Xs.exc|apply Xu.ok|exact Xu.exc|apply Xv.ok|exact Xv.exc|apply Xw.ok|exact Xw.exc|apply Xx.ok|exact Xx.exc|apply Xy.ok|exact Xy.exc|apply Xz.ok|exact Xz.exc|apply XA.ok|exact XA.exc|apply XB.ok|exact XB.exc|apply XC.ok|exact XC.exc|apply XD.ok|exact XD.exc|apply XE.ok|exact XE.exc|apply XF.ok|exact XF.exc|apply XG.ok|exact XG.exc|apply XH.ok|exact XH.exc|apply XI.ok|exact XI.exc|exact XJ.t|exact XJ.f|exact XJ.exc|apply XK.t|exact XK.f|exact XK.exc|exact XM.t|apply XM.f|exact XM.exc|apply XN.t|exact XN.f|apply XO.andT|exact XO.andF|apply XO.orF|exact XO.orT|apply XQ.next|exact XQ.ret|exact XQ.exc|exact XQ.cont|exact XQ.brk|apply XR.t|apply XR.f|exact XR.exc|exact XS.ok|apply XS.exc|exact XT|apply XU|apply XV.next|exact XV.ret|exact XV.exc|exact XW|exact XX)|exact XY rfl|apply XZ rfl Qa|apply XZ rfl Qb|exact (rfl : listFree _ = true)|exact X0 rfl|apply X1 rfl|exact X2 rfl|exact X3 rfl|exact (rfl : (_ : Option _) = some _)|decide)
        · refine ⟨fun q => absurd q.2.2.2 hr, fun _ => ?_⟩
          unfold F_change_of f_change_of
          refine' run_of [some (.sh (.int n)), some (.sh (.str (txt cs))), none, none] rfl rfl ?_ fin_exc
          repeat' (first|(with_reducible first|assumption|exact Qa|exact Qb|exact Qc|apply Qd|exact Qe|apply Qf|exact Qg|apply Qh|exact Qi|apply Qj|exact Qk|apply Ql|apply Qm|exact Qn|exact Qo|apply Qp|exact Qq|exact Qr|apply Qs|exact Qt|exact Qu|exact Qv|exact Qw|exact Qx|exact Qy|exact Qz|apply QA|apply QB|apply QC|apply QD|apply QE|apply QF|apply QG|apply QH|apply QI|apply QJ|apply QK|apply QL|apply QM|apply QN|apply QO|apply QP|apply QQ|apply QR|apply QS|apply QT|apply QU|apply QV|apply QW|apply QX|apply QY|apply QZ|apply Q0|apply Q1|apply Q2|apply Q3|apply Q4|apply Q5|apply Q6|apply Q7|apply Q8|apply Q9|apply Xa|apply Xb|apply Xc|apply Xd|apply Xe|apply Xf|apply Xg|apply Xh|apply Xi|exact Xj|apply Xk.ok|exact Xk.exc|apply Xl.ok|exact Xl.exc|apply Xm.ok|exact Xm.exc|apply Xn.ok|exact Xn.exc|apply Xo.ok|exact Xo.exc|apply Xp.ok|exact Xp.exc|apply Xq.ok|exact Xq.exc|apply Xr.ok|exact Xr.exc|apply Xs.ok|exact Xs.exc|apply Xu.ok|exact Xu.exc|apply Xv.ok|exact Xv.exc|apply Xw.ok|exact Xw.exc|apply Xx.ok|exact Xx.exc|apply Xy.ok|exact Xy.exc|apply Xz.ok|exact Xz.exc|apply XA.ok|exact XA.exc|apply XB.ok|exact XB.exc|apply XC.ok|exact XC.exc|apply XD.ok|exact XD.exc|apply XE.ok|exact XE.exc|apply XF.ok|exact XF.exc|apply XG.ok|exact XG.exc|apply XH.ok|exact XH.exc|apply XI.ok|exact XI.exc|exact XJ.t|exact XJ.f|exact XJ.exc|apply XK.t|exact XK.f|exact XK.exc|exact XM.t|apply XM.f|exact XM.exc|apply XN.t|exact XN.f|apply XO.andT|exact XO.andF|apply XO.orF|exact XO.orT|apply XQ.next|exact XQ.ret|exact XQ.exc|exact XQ.cont|exact XQ.brk|apply XR.t|apply XR.f|exact XR.exc|exact XS.ok|apply XS.exc|exact XT|apply XU|apply XV.next|exact XV.ret|exact XV.exc|exact XW|exact XX)|exact XY rfl|apply XZ rfl Qa|apply XZ rfl Qb|exact (rfl : listFree _ = true)|exact X0 rfl|apply X1 rfl|exact X2 rfl|exact X3 rfl|exact (rfl : (_ : Option _) = some _)|decide)
      · have e8 := geI_t (a := (((cs.map ixN).getD (cs.length - 1) 0 : Nat) : Int)) (b := n) (by omega)
        refine ⟨fun q => absurd q.2.2.1 hn, fun _ => ?_⟩
        unfold F_change_of f_change_of
        refine' run_of [some (.sh (.int n)), some (.sh (.str (txt cs))), none, none] rfl rfl ?_ fin_exc
        repeat' (first|(with_reducible first|assumption|exact Qa|exact Qb|exact Qc|apply Qd|exact Qe|apply Qf|exact Qg|apply Qh|exact Qi|apply Qj|exact Qk|apply Ql|apply Qm|exact Qn|exact Qo|apply Qp|exact Qq|exact Qr|apply Qs|exact Qt|exact Qu|exact Qv|exact Qw|exact Qx|exact Qy|exact Qz|apply QA|apply QB|apply QC|apply QD|apply QE|apply QF|apply QG|apply QH|apply QI|apply QJ|apply QK|apply QL|apply QM|apply QN|apply QO|apply QP|apply QQ|apply QR|apply QS|apply QT|apply QU|apply QV|apply QW|apply QX|apply QY|apply QZ|apply Q0|apply Q1|apply Q2|apply Q3|apply Q4|apply Q5|apply Q6|apply Q7|apply Q8|apply Q9|apply Xa|apply Xb|apply Xc|apply Xd|apply Xe|apply Xf|apply Xg|apply Xh|apply Xi|exact Xj|apply Xk.ok|exact Xk.exc|apply Xl.ok|exact Xl.exc|apply Xm.ok|exact Xm.exc|apply Xn.ok|exact Xn.exc|apply Xo.ok|exact Xo.exc|apply Xp.ok|exact Xp.exc|apply Xq.ok|exact Xq.exc|apply Xr.ok|exact Xr.exc|apply Xs.ok|exact Xs.exc|apply Xu.ok|exact Xu.exc|apply Xv.ok|exact Xv.exc|apply Xw.ok|exact Xw.exc|apply Xx.ok|exact Xx.exc|apply Xy.ok|exact Xy.exc|apply Xz.ok|exact Xz.exc|apply XA.ok|exact XA.exc|apply XB.ok|exact XB.exc|apply XC.ok|exact XC.exc|apply XD.ok|exact XD.exc|apply XE.ok|exact XE.exc|apply XF.ok|exact XF.exc|apply XG.ok|exact XG.exc|apply XH.ok|exact XH.exc|apply XI.ok|exact XI.exc|exact XJ.t|exact XJ.f|exact XJ.exc|apply XK.t|exact XK.f|exact XK.exc|exact XM.t|apply XM.f|exact XM.exc|apply XN.t|exact XN.f|apply XO.andT|exact XO.andF|apply XO.orF|exact XO.orT|apply XQ.next|exact XQ.ret|exact XQ.exc|exact XQ.cont|exact XQ.brk|apply XR.t|apply XR.f|exact XR.exc|exact XS.ok|apply XS.exc|exact XT|apply XU|apply XV.next|exact XV.ret|exact XV.exc|exact XW|exact XX)|exact XY rfl|apply XZ rfl Qa|apply XZ rfl Qb|exact (rfl : listFree _ = true)|exact X0 rfl|apply X1 rfl|exact X2 rfl|exact X3 rfl|exact (rfl : (_ : Option _) = some _)|decide)
  · have hs' : cs.all (· ∈ sg) = false := by
      cases h : cs.all (· ∈ sg) with
      | false => rfl
      | true => exact absurd (all_sg.mp h) hs
    rw [hs', if_neg (by decide)] at e3
    refine ⟨fun q => absurd q.1 hs, fun _ => ?_⟩
    unfold F_change_of f_change_of
    refine' run_of [some (.sh (.int n)), some (.sh (.str (txt cs))), none, none] rfl rfl ?_ fin_exc
    repeat' (first|(with_reducible first|assumption|exact Qa|exact Qb|exact Qc|apply Qd|exact Qe|apply Qf|exact Qg|apply Qh|exact Qi|apply Qj|exact Qk|apply Ql|apply Qm|exact Qn|exact Qo|apply Qp|exact Qq|exact Qr|apply Qs|exact Qt|exact Qu|exact Qv|exact Qw|exact Qx|exact Qy|exact Qz|apply QA|apply QB|apply QC|apply QD|apply QE|apply QF|apply QG|apply QH|apply QI|apply QJ|apply QK|apply QL|apply QM|apply QN|apply QO|apply QP|apply QQ|apply QR|apply QS|apply QT|apply QU|apply QV|apply QW|apply QX|apply QY|apply QZ|apply Q0|apply Q1|apply Q2|apply Q3|apply Q4|apply Q5|apply Q6|apply Q7|apply Q8|apply Q9|apply Xa|apply Xb|apply Xc|apply Xd|apply Xe|apply Xf|apply Xg|apply Xh|apply Xi|exact Xj|apply Xk.ok|exact Xk.exc|apply Xl.ok|exact Xl.exc|apply Xm.ok|exact Xm.exc|apply Xn.ok|exact Xn.exc|apply Xo.ok|exact Xo.exc|apply Xp.ok|exact Xp.exc|apply Xq.ok|exact Xq.exc|apply Xr.ok|exact Xr.exc|apply Xs.ok|exact Xs.exc|apply Xu.ok|exact Xu.exc|apply Xv.ok|exact Xv.exc|apply Xw.ok|exact Xw.exc|apply Xx.ok|exact Xx.exc|apply Xy.ok|exact Xy.exc|apply Xz.ok|exact Xz.exc|apply XA.ok|exact XA.exc|apply XB.ok|exact XB.exc|apply XC.ok|exact XC.exc|apply XD.ok|exact XD.exc|apply XE.ok|exact XE.exc|apply XF.ok|exact XF.exc|apply XG.ok|exact XG.exc|apply XH.ok|exact XH.exc|apply XI.ok|exact XI.exc|exact XJ.t|exact XJ.f|exact XJ.exc|apply XK.t|exact XK.f|exact XK.exc|exact XM.t|apply XM.f|exact XM.exc|apply XN.t|exact XN.f|apply XO.andT|exact XO.andF|apply XO.orF|exact XO.orT|apply XQ.next|exact XQ.ret|exact XQ.exc|exact XQ.cont|exact XQ.brk|apply XR.t|apply XR.f|exact XR.exc|exact XS.ok|apply XS.exc|exact XT|apply XU|apply XV.next|exact XV.ret|exact XV.exc|exact XW|exact XX)|exact XY rfl|apply XZ rfl Qa|apply XZ rfl Qb|exact (rfl : listFree _ = true)|exact X0 rfl|apply X1 rfl|exact X2 rfl|exact X3 rfl|exact (rfl : (_ : Option _) = some _)|decide)
theorem F_change_of_bells (K : Frag) (d e : D) (h : F_need_bells K [d] = .exc 37) : F_change_of K [d, e] = .exc 37 := by
  unfold F_change_of f_change_of
  refine' run_of [some (.sh d), some (.sh e), none, none] rfl rfl ?_ fin_exc
  repeat' (first|(with_reducible first|assumption|exact Qa|exact Qb|exact Qc|apply Qd|exact Qe|apply Qf|exact Qg|apply Qh|exact Qi|apply Qj|exact Qk|apply Ql|apply Qm|exact Qn|exact Qo|apply Qp|exact Qq|exact Qr|apply Qs|exact Qt|exact Qu|exact Qv|exact Qw|exact Qx|exact Qy|exact Qz|apply QA|apply QB|apply QC|apply QD|apply QE|apply QF|apply QG|apply QH|apply QI|apply QJ|apply QK|apply QL|apply QM|apply QN|apply QO|apply QP|apply QQ|apply QR|apply QS|apply QT|apply QU|apply QV|apply QW|apply QX|apply QY|apply QZ|apply Q0|apply Q1|apply Q2|apply Q3|apply Q4|apply Q5|apply Q6|apply Q7|apply Q8|apply Q9|apply Xa|apply Xb|apply Xc|apply Xd|apply Xe|apply Xf|apply Xg|apply Xh|apply Xi|exact Xj|apply Xk.ok|exact Xk.exc|apply Xl.ok|exact Xl.exc|apply Xm.ok|exact Xm.exc|apply Xn.ok|exact Xn.exc|apply Xo.ok|exact Xo.exc|apply Xp.ok|exact Xp.exc|apply Xq.ok|exact Xq.exc|apply Xr.ok|exact Xr.exc|apply Xs.ok|exact Xs.exc|apply Xu.ok|exact Xu.exc|apply Xv.ok|exact Xv.exc|apply Xw.ok|exact Xw.exc|apply Xx.ok|exact Xx.exc|apply Xy.ok|exact Xy.exc|apply Xz.ok|exact Xz.exc|apply XA.ok|exact XA.exc|apply XB.ok|exact XB.exc|apply XC.ok|exact XC.exc|apply XD.ok|exact XD.exc|apply XE.ok|exact XE.exc|apply XF.ok|exact XF.exc|apply XG.ok|exact XG.exc|apply XH.ok|exact XH.exc|apply XI.ok|exact XI.exc|exact XJ.t|exact XJ.f|exact XJ.exc|apply XK.t|exact XK.f|exact XK.exc|exact XM.t|apply XM.f|exact XM.exc|apply XN.t|exact XN.f|apply XO.andT|exact XO.andF|apply XO.orF|exact XO.orT|apply XQ.next|exact XQ.ret|exact XQ.exc|exact XQ.cont|exact XQ.brk|apply XR.t|apply XR.f|exact XR.exc|exact XS.ok|apply XS.exc|exact XT|apply XU|apply XV.next|exact XV.ret|exact XV.exc|exact XW|exact XX)|exact XY rfl|apply XZ rfl Qa|apply XZ rfl Qb|exact (rfl : listFree _ = true)|exact X0 rfl|apply X1 rfl|exact X2 rfl|exact X3 rfl|exact (rfl : (_ : Option _) = some _)|decide)
noncomputable def dB (n : Nat) (cs : List Nat) : Nat → Nat → List Nat → List Nat
  | 0, _, fs => fs
  | m + 1, p, fs => if p < n then (if sgAt p ∈ cs then dB n cs m (p + 1) fs else dB n cs m (p + 2) (fs ++ [p])) else fs
theorem due_loop (K : Frag) {n : Nat} {cs : List Nat} (hn : n ≤ 12) : ∃ r, (sWhile 1000 (eTest2 ltI (eOp 3) (eOp 0)) (sSeq (sIf (eTest2 inI (eVal (eOp2 strIdx (eVal (eConst (.str "1234567890et"))) (eOp 3))) (eOp 1)) (sSeq (sAssign 3 (eOp2 addS (eOp 3) (eVal (eConst (.int 1))))) sNil) (sSeq (sExpr (eVal (eAppend 2 (eVar 3)))) (sSeq (sAssign 3 (eOp2 addS (eOp 3) (eVal (eConst (.int 2))))) sNil))) sNil)) [some (.sh (.int n)), some (.sh (.str (txt cs))), some (.ow true (.list [])), some (.sh (.int 0))] = r ∧ ∃ v, r = .ok .next [some (.sh (.int n)), some (.sh (.str (txt cs))), some (.ow true (.list (nD (dB n cs (n + 2) 0 [])))), v] ∧ (dB n cs (n + 2) 0 []).length ≤ 13 := by
  refine while_ex (fun m ρ => ∃ (fs : List Nat) (p : Nat), ρ = [some (.sh (.int n)), some (.sh (.str (txt cs))), some (.ow true (.list (nD fs))), some (.sh (.int p))] ∧ dB n cs m p fs = dB n cs (n + 2) 0 [] ∧ n + 1 < p + m ∧ p ≤ n + 1 ∧ fs.length ≤ p) (fun r => ∃ v, r = .ok .next [some (.sh (.int n)), some (.sh (.str (txt cs))), some (.ow true (.list (nD (dB n cs (n + 2) 0 [])))), v] ∧ (dB n cs (n + 2) 0 []).length ≤ 13) ?_ 1000 (n + 2) _ ⟨[], 0, rfl, rfl, by omega, Nat.zero_le _, Nat.zero_le _⟩ (by omega)
  rintro m ρ ⟨fs, p, rfl, hX, hm, hpn, hl⟩
  cases m with
  | zero => omega
  | succ m =>
    rw [dB] at hX
    by_cases hp : p < n
    · right
      rw [if_pos hp] at hX
      have e1 := ltI_t (a := (p : Int)) (b := n) (by omega)
      have e2 := sign_idx (p := (p : Int)) (by omega) (by omega)
      have e3 := in_sgn cs (sgAt p)
      refine ⟨[some (.sh (.int n)), some (.sh (.str (txt cs))), some (.ow true (.list (nD fs))), some (.sh (.int p))], ?_⟩
      by_cases hq : sgAt p ∈ cs
      · rw [if_pos hq] at hX
        rw [decide_eq_true hq] at e3
        refine ⟨.ok .next [some (.sh (.int n)), some (.sh (.str (txt cs))), some (.ow true (.list (nD fs))), some (.sh (.int ((p : Int) + 1)))], by repeat' (first|(with_reducible first|assumption|exact Qa|exact Qb|exact Qc|apply Qd|exact Qe|apply Qf|exact Qg|apply Qh|exact Qi|apply Qj|exact Qk|apply Ql|apply Qm|exact Qn|exact Qo|apply Qp|exact Qq|exact Qr|apply Qs|exact Qt|exact Qu|exact Qv|exact Qw|exact Qx|exact Qy|exact Qz|apply QA|apply QB|apply QC|apply QD|apply QE|apply QF|apply QG|apply QH|apply QI|apply QJ|apply QK|apply QL|apply QM|apply QN|apply QO|apply QP|apply QQ|apply QR|apply QS|apply QT|apply QU|apply QV|apply QW|apply QX|apply QY|apply QZ|apply Q0|apply Q1|apply Q2|apply Q3|apply Q4|apply Q5|apply Q6|apply Q7|apply Q8|apply Q9|apply Xa|apply Xb|apply Xc|apply Xd|apply Xe|apply Xf|apply Xg|apply Xh|apply Xi|exact Xj|apply Xk.ok|exact Xk.exc|apply Xl.ok|exact Xl.exc|apply Xm.ok|exact Xm.exc|apply Xn.ok|exact Xn.exc|apply Xo.ok|exact Xo.exc|apply Xp.ok|exact Xp.exc|apply Xq.ok|exact Xq.exc|apply Xr.ok|exact Xr.exc|apply Xs.ok|exact Xs.exc|apply Xu.ok|exact Xu.exc|apply Xv.ok|exact Xv.exc|apply Xw.ok|exact Xw.exc|apply Xx.ok|exact Xx.exc|apply Xy.ok|exact Xy.exc|apply Xz.ok|exact Xz.exc|apply XA.ok|exact XA.exc|apply XB.ok|exact XB.exc|apply XC.ok|exact XC.exc|apply XD.ok|exact XD.exc|apply XE.ok|exact XE.exc|apply XF.ok|exact XF.exc|apply XG.ok|exact XG.exc|apply XH.ok|exact XH.exc|apply XI.ok|exact XI.exc|exact XJ.t|exact XJ.f|exact XJ.exc|apply XK.t|exact XK.f|exact XK.exc|exact XM.t|apply XM.f|exact XM.exc|apply XN.t|exact XN.f|apply XO.andT|exact XO.andF|apply XO.orF|exact XO.orT|apply XQ.next|exact XQ.ret|exact XQ.exc|exact XQ.cont|exact XQ.brk|apply XR.t|apply XR.f|exact XR.exc|exact XS.ok|apply XS.exc|exact XT|apply XU|apply XV.next|exact XV.ret|exact XV.exc|exact XW|exact XX)|exact XY rfl|apply XZ rfl Qa|apply XZ rfl Qb|exact (rfl : listFree _ = true)|exact X0 rfl|apply X1 rfl|exact X2 rfl|exact X3 rfl|exact (rfl : (_ : Option _) = some _)|decide), ?_, m, Nat.lt_succ_self _, fs, p + 1, ?_, hX, by omega, by omega, by omega⟩
        · repeat' (first|(with_reducible first|assumption|exact Qa|exact Qb|exact Qc|apply Qd|exact Qe|apply Qf|exact Qg|apply Qh|exact Qi|apply Qj|exact Qk|apply Ql|apply Qm|exact Qn|exact Qo|apply Qp|exact Qq|exact Qr|apply Qs|exact Qt|exact Qu|exact Qv|exact Qw|exact Qx|exact Qy|exact Qz|apply QA|apply QB|apply QC|apply QD|apply QE|apply QF|apply QG|apply QH|apply QI|apply QJ|apply QK|apply QL|apply QM|apply QN|apply QO|apply QP|apply QQ|apply QR|apply QS|apply QT|apply QU|apply QV|apply QW|apply QX|apply QY|apply QZ|apply Q0|apply Q1|apply Q2|apply Q3|apply Q4|apply Q5|apply Q6|apply Q7|apply Q8|apply Q9|apply Xa|apply Xb|apply Xc|apply Xd|apply Xe|apply Xf|apply Xg|apply Xh|apply Xi|exact Xj|apply Xk.ok|exact Xk.exc|apply Xl.ok|exact Xl.exc|apply Xm.ok|exact Xm.exc|apply Xn.ok|exact Xn.exc|apply Xo.ok|exact Xo.exc|apply Xp.ok|exact Xp.exc|apply Xq.ok|exact Xq.exc|apply Xr.ok|exact Xr.exc|apply Xs.ok|exact Xs.exc|apply Xu.ok|exact Xu.exc|apply Xv.ok|exact Xv.exc|apply Xw.ok|exact Xw.exc|apply Xx.ok|exact Xx.exc|apply Xy.ok|exact Xy.exc|apply Xz.ok|exact Xz.exc|apply XA.ok|exact XA.exc|apply XB.ok|exact XB.exc|apply XC.ok|exact XC.exc|apply XD.ok|exact XD.exc|apply XE.ok|exact XE.exc|apply XF.ok|exact XF.exc|apply XG.ok|exact XG.exc|apply XH.ok|exact XH.exc|apply XI.ok|exact XI.exc|exact XJ.t|exact XJ.f|exact XJ.exc|apply XK.t|exact XK.f|exact XK.exc|exact XM.t|apply XM.f|exact XM.exc|apply XN.t|exact XN.f|apply XO.andT|exact XO.andF|apply XO.orF|exact XO.orT|apply XQ.next|exact XQ.ret|exact XQ.exc|exact XQ.cont|exact XQ.brk|apply XR.t|apply XR.f|exact XR.exc|exact XS.ok|apply XS.exc|exact XT|apply XU|apply XV.next|exact XV.ret|exact XV.exc|exact XW|exact XX)|exact XY rfl|apply XZ rfl Qa|apply XZ rfl Qb|exact (rfl : listFree _ = true)|exact X0 rfl|apply X1 rfl|exact X2 rfl|exact X3 rfl|exact (rfl : (_ : Option _) = some _)|decide)
        · rw [show ((p : Int) + 1) = ((p + 1 : Nat) : Int) by omega]
      · rw [if_neg hq] at hX
        rw [decide_eq_false hq] at e3
        have hl' : (nD fs).length ≤ 1000000 := by rw [nD_len]; omega
        refine ⟨.ok .next [some (.sh (.int n)), some (.sh (.str (txt cs))), some (.ow true (.list (nD fs ++ [.int p]))), some (.sh (.int ((p : Int) + 2)))], by repeat' (first|(with_reducible first|assumption|exact Qa|exact Qb|exact Qc|apply Qd|exact Qe|apply Qf|exact Qg|apply Qh|exact Qi|apply Qj|exact Qk|apply Ql|apply Qm|exact Qn|exact Qo|apply Qp|exact Qq|exact Qr|apply Qs|exact Qt|exact Qu|exact Qv|exact Qw|exact Qx|exact Qy|exact Qz|apply QA|apply QB|apply QC|apply QD|apply QE|apply QF|apply QG|apply QH|apply QI|apply QJ|apply QK|apply QL|apply QM|apply QN|apply QO|apply QP|apply QQ|apply QR|apply QS|apply QT|apply QU|apply QV|apply QW|apply QX|apply QY|apply QZ|apply Q0|apply Q1|apply Q2|apply Q3|apply Q4|apply Q5|apply Q6|apply Q7|apply Q8|apply Q9|apply Xa|apply Xb|apply Xc|apply Xd|apply Xe|apply Xf|apply Xg|apply Xh|apply Xi|exact Xj|apply Xk.ok|exact Xk.exc|apply Xl.ok|exact Xl.exc|apply Xm.ok|exact Xm.exc|apply Xn.ok|exact Xn.exc|apply Xo.ok|exact Xo.exc|apply Xp.ok|exact Xp.exc|apply Xq.ok|exact Xq.exc|apply Xr.ok|exact Xr.exc|apply Xs.ok|exact Xs.exc|apply Xu.ok|exact Xu.exc|apply Xv.ok|exact Xv.exc|apply Xw.ok|exact Xw.exc|apply Xx.ok|exact Xx.exc|apply Xy.ok|exact Xy.exc|apply Xz.ok|exact Xz.exc|apply XA.ok|exact XA.exc|apply XB.ok|exact XB.exc|apply XC.ok|exact XC.exc|apply XD.ok|exact XD.exc|apply XE.ok|exact XE.exc|apply XF.ok|exact XF.exc|apply XG.ok|exact XG.exc|apply XH.ok|exact XH.exc|apply XI.ok|exact XI.exc|exact XJ.t|exact XJ.f|exact XJ.exc|apply XK.t|exact XK.f|exact XK.exc|exact XM.t|apply XM.f|exact XM.exc|apply XN.t|exact XN.f|apply XO.andT|exact XO.andF|apply XO.orF|exact XO.orT|apply XQ.next|exact XQ.ret|exact XQ.exc|exact XQ.cont|exact XQ.brk|apply XR.t|apply XR.f|exact XR.exc|exact XS.ok|apply XS.exc|exact XT|apply XU|apply XV.next|exact XV.ret|exact XV.exc|exact XW|exact XX)|exact XY rfl|apply XZ rfl Qa|apply XZ rfl Qb|exact (rfl : listFree _ = true)|exact X0 rfl|apply X1 rfl|exact X2 rfl|exact X3 rfl|exact (rfl : (_ : Option _) = some _)|decide), ?_, m, Nat.lt_succ_self _, fs ++ [p], p + 2, ?_, hX, by omega, by omega, by simp; omega⟩
        · repeat' (first|(with_reducible first|assumption|exact Qa|exact Qb|exact Qc|apply Qd|exact Qe|apply Qf|exact Qg|apply Qh|exact Qi|apply Qj|exact Qk|apply Ql|apply Qm|exact Qn|exact Qo|apply Qp|exact Qq|exact Qr|apply Qs|exact Qt|exact Qu|exact Qv|exact Qw|exact Qx|exact Qy|exact Qz|apply QA|apply QB|apply QC|apply QD|apply QE|apply QF|apply QG|apply QH|apply QI|apply QJ|apply QK|apply QL|apply QM|apply QN|apply QO|apply QP|apply QQ|apply QR|apply QS|apply QT|apply QU|apply QV|apply QW|apply QX|apply QY|apply QZ|apply Q0|apply Q1|apply Q2|apply Q3|apply Q4|apply Q5|apply Q6|apply Q7|apply Q8|apply Q9|apply Xa|apply Xb|apply Xc|apply Xd|apply Xe|apply Xf|apply Xg|apply Xh|apply Xi|exact Xj|apply Xk.ok|exact Xk.exc|apply Xl.ok|exact Xl.exc|apply Xm.ok|exact Xm.exc|apply Xn.ok|exact Xn.exc|apply Xo.ok|exact Xo.exc|apply Xp.ok|exact Xp.exc|apply Xq.ok|exact Xq.exc|apply Xr.ok|exact Xr.exc|apply Xs.ok|exact Xs.exc|apply Xu.ok|exact Xu.exc|apply Xv.ok|exact Xv.exc|apply Xw.ok|exact Xw.exc|apply Xx.ok|exact Xx.exc|apply Xy.ok|exact Xy.exc|apply Xz.ok|exact Xz.exc|apply XA.ok|exact XA.exc|apply XB.ok|exact XB.exc|apply XC.ok|exact XC.exc|apply XD.ok|exact XD.exc|apply XE.ok|exact XE.exc|apply XF.ok|exact XF.exc|apply XG.ok|exact XG.exc|apply XH.ok|exact XH.exc|apply XI.ok|exact XI.exc|exact XJ.t|exact XJ.f|exact XJ.exc|apply XK.t|exact XK.f|exact XK.exc|exact XM.t|apply XM.f|exact XM.exc|apply XN.t|exact XN.f|apply XO.andT|exact XO.andF|apply XO.orF|exact XO.orT|apply XQ.next|exact XQ.ret|exact XQ.exc|exact XQ.cont|exact XQ.brk|apply XR.t|apply XR.f|exact XR.exc|exact XS.ok|apply XS.exc|exact XT|apply XU|apply XV.next|exact XV.ret|exact XV.exc|exact XW|exact XX)|exact XY rfl|apply XZ rfl Qa|apply XZ rfl Qb|exact (rfl : listFree _ = true)|exact X0 rfl|apply X1 rfl|exact X2 rfl|exact X3 rfl|exact (rfl : (_ : Option _) = some _)|decide)
        · rw [show ((p : Int) + 2) = ((p + 2 : Nat) : Int) by omega]
          unfold nD; simp
    · left
      rw [if_neg hp] at hX
      have e1 := ltI_f (a := (p : Int)) (b := n) (by omega)
      refine ⟨[some (.sh (.int n)), some (.sh (.str (txt cs))), some (.ow true (.list (nD fs))), some (.sh (.int p))], by repeat' (first|(with_reducible first|assumption|exact Qa|exact Qb|exact Qc|apply Qd|exact Qe|apply Qf|exact Qg|apply Qh|exact Qi|apply Qj|exact Qk|apply Ql|apply Qm|exact Qn|exact Qo|apply Qp|exact Qq|exact Qr|apply Qs|exact Qt|exact Qu|exact Qv|exact Qw|exact Qx|exact Qy|exact Qz|apply QA|apply QB|apply QC|apply QD|apply QE|apply QF|apply QG|apply QH|apply QI|apply QJ|apply QK|apply QL|apply QM|apply QN|apply QO|apply QP|apply QQ|apply QR|apply QS|apply QT|apply QU|apply QV|apply QW|apply QX|apply QY|apply QZ|apply Q0|apply Q1|apply Q2|apply Q3|apply Q4|apply Q5|apply Q6|apply Q7|apply Q8|apply Q9|apply Xa|apply Xb|apply Xc|apply Xd|apply Xe|apply Xf|apply Xg|apply Xh|apply Xi|exact Xj|apply Xk.ok|exact Xk.exc|apply Xl.ok|exact Xl.exc|apply Xm.ok|exact Xm.exc|apply Xn.ok|exact Xn.exc|apply Xo.ok|exact Xo.exc|apply Xp.ok|exact Xp.exc|apply Xq.ok|exact Xq.exc|apply Xr.ok|exact Xr.exc|apply Xs.ok|exact Xs.exc|apply Xu.ok|exact Xu.exc|apply Xv.ok|exact Xv.exc|apply Xw.ok|exact Xw.exc|apply Xx.ok|exact Xx.exc|apply Xy.ok|exact Xy.exc|apply Xz.ok|exact Xz.exc|apply XA.ok|exact XA.exc|apply XB.ok|exact XB.exc|apply XC.ok|exact XC.exc|apply XD.ok|exact XD.exc|apply XE.ok|exact XE.exc|apply XF.ok|exact XF.exc|apply XG.ok|exact XG.exc|apply XH.ok|exact XH.exc|apply XI.ok|exact XI.exc|exact XJ.t|exact XJ.f|exact XJ.exc|apply XK.t|exact XK.f|exact XK.exc|exact XM.t|apply XM.f|exact XM.exc|apply XN.t|exact XN.f|apply XO.andT|exact XO.andF|apply XO.orF|exact XO.orT|apply XQ.next|exact XQ.ret|exact XQ.exc|exact XQ.cont|exact XQ.brk|apply XR.t|apply XR.f|exact XR.exc|exact XS.ok|apply XS.exc|exact XT|apply XU|apply XV.next|exact XV.ret|exact XV.exc|exact XW|exact XX)|exact XY rfl|apply XZ rfl Qa|apply XZ rfl Qb|exact (rfl : listFree _ = true)|exact X0 rfl|apply X1 rfl|exact X2 rfl|exact X3 rfl|exact (rfl : (_ : Option _) = some _)|decide), ?_⟩
      rw [← hX]
      exact ⟨_, rfl, by omega⟩
end Mine
end

section
set_option Elab.async false
set_option maxRecDepth 100000
set_option maxHeartbeats 4000000
set_option linter.unusedSimpArgs false
set_option linter.unusedVariables false
namespace Mine
open PySem PySem.W
theorem neI_txt {a b : List Nat} (ha : ∀ c ∈ a, c < 128) (hb : ∀ c ∈ b, c < 128) : neI (.str (txt a)) (.str (txt b)) = some (.sh (.bool !(decide (a = b)))) := by
  have := eqI_txt ha hb
  unfold eqI at this
  unfold neI
  cases h : eqD (.str (txt a)) (.str (txt b)) with
  | none => rw [h] at this; cases this
  | some c => rw [h] at this; simp only [Option.map_some, Option.some.injEq, T.sh.injEq, D.bool.injEq] at this; rw [this]; rfl
theorem stayT_128 {n : Nat} (hn : n ≤ 12) (fs : List Nat) : ∀ c ∈ stayT n fs, c < 128 := by
  unfold stayT
  split
  · decide
  · exact stayL_128 hn fs
noncomputable def CdOk (n : Nat) (cs fs : List Nat) : Prop := fs ≠ [] ∧ fs.getD (fs.length - 1) 0 + 2 ≤ n ∧ stayT n fs = cs
theorem F_change_due_txt (K : Frag) {n : Nat} {cs : List Nat} (h3 : 3 ≤ n) (h12 : n ≤ 12) (hc : ∀ c ∈ cs, c < 128) : (CdOk n cs (dB n cs (n + 2) 0 []) → F_law_change_due K [.int n, .str (txt cs)] = .ok (.sh (.tup (nD (dB n cs (n + 2) 0 []))))) ∧ (¬ CdOk n cs (dB n cs (n + 2) 0 []) → F_law_change_due K [.int n, .str (txt cs)] = .ok (.sh .none)) := by
  have e1 : isInstI K [.str (txt cs), .glob (.type "str")] = some (.sh (.bool true)) := isStr_eq K (.str (txt cs)) rfl
  obtain ⟨r, g1, v, rfl, hl⟩ := due_loop K (cs := cs) h12
  generalize dB n cs (n + 2) 0 [] = fs at g1 hl
  have e2 := eq_nil_nD fs
  by_cases hz : fs = []
  · refine ⟨fun q => absurd hz q.1, fun _ => ?_⟩
    rw [decide_eq_true hz] at e2
    unfold F_law_change_due f_law_change_due
    refine' run_of [some (.sh (.int n)), some (.sh (.str (txt cs))), none, none] rfl rfl ?_ fin_ret
    repeat' (first|(with_reducible first|assumption|exact Qa|exact Qb|exact Qc|apply Qd|exact Qe|apply Qf|exact Qg|apply Qh|exact Qi|apply Qj|exact Qk|apply Ql|apply Qm|exact Qn|exact Qo|apply Qp|exact Qq|exact Qr|apply Qs|exact Qt|exact Qu|exact Qv|exact Qw|exact Qx|exact Qy|exact Qz|apply QA|apply QB|apply QC|apply QD|apply QE|apply QF|apply QG|apply QH|apply QI|apply QJ|apply QK|apply QL|apply QM|apply QN|apply QO|apply QP|apply QQ|apply QR|apply QS|apply QT|apply QU|apply QV|apply QW|apply QX|apply QY|apply QZ|apply Q0|apply Q1|apply Q2|apply Q3|apply Q4|apply Q5|apply Q6|apply Q7|apply Q8|apply Q9|apply Xa|apply Xb|apply Xc|apply Xd|apply Xe|apply Xf|apply Xg|apply Xh|apply Xi|exact Xj|apply Xk.ok|exact Xk.exc|apply Xl.ok|exact Xl.exc|apply Xm.ok|exact Xm.exc|apply Xn.ok|exact Xn.exc|apply Xo.ok|exact Xo.exc|apply Xp.ok|exact Xp.exc|apply Xq.ok|exact Xq.exc|apply Xr.ok|exact Xr.exc|apply Xs.ok|exact Xs.exc|apply Xu.ok|exact Xu.exc|apply Xv.ok|exact Xv.exc|apply Xw.ok|exact Xw.exc|apply Xx.ok|exact Xx.exc|apply Xy.ok|exact Xy.exc|apply Xz.ok|exact Xz.exc|apply XA.ok|exact XA.exc|apply XB.ok|exact XB.exc|apply XC.ok|exact XC.exc|apply XD.ok|exact XD.exc|apply XE.ok|exact XE.exc|apply XF.ok|exact XF.exc|apply XG.ok|exact XG.exc|apply XH.ok|exact XH.exc|apply XI.ok|exact XI.exc|exact XJ.t|exact XJ.f|exact XJ.exc|apply XK.t|exact XK.f|exact XK.exc|exact XM.t|apply XM.f|exact XM.exc|apply XN.t|exact XN.f|apply XO.andT|exact XO.andF|apply XO.orF|exact XO.orT|apply XQ.next|exact XQ.ret|exact XQ.exc|exact XQ.cont|exact XQ.brk|apply XR.t|apply XR.f|exact XR.exc|exact XS.ok|apply XS.exc|exact XT|apply XU|apply XV.next|exact XV.ret|exact XV.exc|exact XW|exact XX)|exact XY rfl|apply XZ rfl Qa|apply XZ rfl Qb|exact (rfl : listFree _ = true)|exact X0 rfl|apply X1 rfl|exact X2 rfl|exact X3 rfl|exact (rfl : (_ : Option _) = some _)|decide)
  · rw [decide_eq_false hz] at e2
    have hp := List.length_pos_iff.mpr hz
    have e3 : idxI (.list (nD fs)) (.int (-1)) = some (.sh (.int (fs.getD (fs.length - 1) 0 : Nat))) := idx_lastl (by rw [nD_len]; exact hp) (by rw [nD_len]; omega) (by rw [nD_len]; exact nD_get' (by omega))
    have e4 : negI (.int 1) = some (.sh (.int (-1))) := rfl
    have e5 : subI (.int n) (.int 2) = some (.sh (.int ((n : Int) - 2))) := rfl
    by_cases hn : fs.getD (fs.length - 1) 0 + 2 ≤ n
    · have e6 := gtI_f (a := ((fs.getD (fs.length - 1) 0 : Nat) : Int)) (b := (n : Int) - 2) (by omega)
      have e7 := F_law_stays_ok K (dc := .list (nD fs)) (cs := fs) h12 (hin_list fs)
      have e8 := neI_txt (a := stayT n fs) (b := cs) (stayT_128 h12 fs) hc
      by_cases ht : stayT n fs = cs
      · refine ⟨fun _ => ?_, fun q => absurd ⟨hz, hn, ht⟩ q⟩
        rw [decide_eq_true ht, Bool.not_true] at e8
        have e9 := tuple_list (ds := nD fs) (by rw [nD_len]; omega)
        unfold F_law_change_due f_law_change_due
        refine' run_of [some (.sh (.int n)), some (.sh (.str (txt cs))), none, none] rfl rfl ?_ fin_ret
        repeat' (first|(with_reducible first|assumption|exact Qa|exact Qb|exact Qc|apply Qd|exact Qe|apply Qf|exact Qg|apply Qh|exact Qi|apply Qj|exact Qk|apply Ql|apply Qm|exact Qn|exact Qo|apply Qp|exact Qq|exact Qr|apply Qs|exact Qt|exact Qu|exact Qv|exact Qw|exact Qx|exact Qy|exact Qz|apply QA|apply QB|apply QC|apply QD|apply QE|apply QF|apply QG|apply QH|apply QI|apply QJ|apply QK|apply QL|apply QM|apply QN|apply QO|apply QP|apply QQ|apply QR|apply QS|apply QT|apply QU|apply QV|apply QW|apply QX|apply QY|apply QZ|apply Q0|apply Q1|apply Q2|apply Q3|apply Q4|apply Q5|apply Q6|apply Q7|apply Q8|apply Q9|apply Xa|apply Xb|apply Xc|apply Xd|apply Xe|apply Xf|apply Xg|apply Xh|apply Xi|exact Xj|apply Xk.ok|exact Xk.exc|apply Xl.ok|exact Xl.exc|apply Xm.ok|exact Xm.exc|apply Xn.ok|exact Xn.exc|apply Xo.ok|exact Xo.exc|apply Xp.ok|exact Xp.exc|apply Xq.ok|exact Xq.exc|apply Xr.ok|exact Xr.exc|apply Xs.ok|exact Xs.exc|apply Xu.ok|exact Xu.exc|apply Xv.ok|exact Xv.exc|apply Xw.ok|exact Xw.exc|apply Xx.ok|exact Xx.exc|apply Xy.ok|exact Xy.exc|apply Xz.ok|exact Xz.exc|apply XA.ok|exact XA.exc|apply XB.ok|exact XB.exc|apply XC.ok|exact XC.exc|apply XD.ok|exact XD.exc|apply XE.ok|exact XE.exc|apply XF.ok|exact XF.exc|apply XG.ok|exact XG.exc|apply XH.ok|exact XH.exc|apply XI.ok|exact XI.exc|exact XJ.t|exact XJ.f|exact XJ.exc|apply XK.t|exact XK.f|exact XK.exc|exact XM.t|apply XM.f|exact XM.exc|apply XN.t|exact XN.f|apply XO.andT|exact XO.andF|apply XO.orF|exact XO.orT|apply XQ.next|exact XQ.ret|exact XQ.exc|exact XQ.cont|exact XQ.brk|apply XR.t|apply XR.f|exact XR.exc|exact XS.ok|apply XS.exc|exact XT|apply XU|apply XV.next|exact XV.ret|exact XV.exc|exact XW|exact XX)|exact XY rfl|apply XZ rfl Qa|apply XZ rfl Qb|exact (rfl : listFree _ = true)|exact X0 rfl|apply X1 rfl|exact X2 rfl|exact X3 rfl|exact (rfl : (_ : Option _) = some _)|decide)
      · refine ⟨fun q => absurd q.2.2 ht, fun _ => ?_⟩
        rw [decide_eq_false ht, Bool.not_false] at e8
        unfold F_law_change_due f_law_change_due
        refine' run_of [some (.sh (.int n)), some (.sh (.str (txt cs))), none, none] rfl rfl ?_ fin_ret
        repeat' (first|(with_reducible first|assumption|exact Qa|exact Qb|exact Qc|apply Qd|exact Qe|apply Qf|exact Qg|apply Qh|exact Qi|apply Qj|exact Qk|apply Ql|apply Qm|exact Qn|exact Qo|apply Qp|exact Qq|exact Qr|apply Qs|exact Qt|exact Qu|exact Qv|exact Qw|exact Qx|exact Qy|exact Qz|apply QA|apply QB|apply QC|apply QD|apply QE|apply QF|apply QG|apply QH|apply QI|apply QJ|apply QK|apply QL|apply QM|apply QN|apply QO|apply QP|apply QQ|apply QR|apply QS|apply QT|apply QU|apply QV|apply QW|apply QX|apply QY|apply QZ|apply Q0|apply Q1|apply Q2|apply Q3|apply Q4|apply Q5|apply Q6|apply Q7|apply Q8|apply Q9|apply Xa|apply Xb|apply Xc|apply Xd|apply Xe|apply Xf|apply Xg|apply Xh|apply Xi|exact Xj|apply Xk.ok|exact Xk.exc|apply Xl.ok|exact Xl.exc|apply Xm.ok|exact Xm.exc|apply Xn.ok|exact Xn.exc|apply Xo.ok|exact Xo.exc|apply Xp.ok|exact Xp.exc|apply Xq.ok|exact Xq.exc|apply Xr.ok|exact Xr.exc|apply Xs.ok|exact Xs.exc|apply Xu.ok|exact Xu.exc|apply Xv.ok|exact Xv.exc|apply Xw.ok|exact Xw.exc|apply Xx.ok|exact Xx.exc|apply Xy.ok|exact Xy.exc|apply Xz.ok|exact Xz.exc|apply XA.ok|exact XA.exc|apply XB.ok|exact XB.exc|apply XC.ok|exact XC.exc|apply XD.ok|exact XD.exc|apply XE.ok|exact XE.exc|apply XF.ok|exact XF.exc|apply XG.ok|exact XG.exc|apply XH.ok|exact XH.exc|apply XI.ok|exact XI.exc|exact XJ.t|exact XJ.f|exact XJ.exc|apply XK.t|exact XK.f|exact XK.exc|exact XM.t|apply XM.f|exact XM.exc|apply XN.t|exact XN.f|apply XO.andT|exact XO.andF|apply XO.orF|exact XO.orT|apply XQ.next|exact XQ.ret|exact XQ.exc|exact XQ.cont|exact XQ.brk|apply XR.t|apply XR.f|exact XR.exc|exact XS.ok|apply XS.exc|exact XT|apply XU|apply XV.next|exact XV.ret|exact XV.exc|exact XW|exact XX)|exact XY rfl|apply XZ rfl Qa|apply XZ rfl Qb|exact (rfl : listFree _ = true)|exact X0 rfl|apply X1 rfl|exact X2 rfl|exact X3 rfl|exact (rfl : (_ : Option _) = some _)|decide)
    · have e6 := gtI_t (a := ((fs.getD (fs.length - 1) 0 : Nat) : Int)) (b := (n : Int) - 2) (by omega)
      refine ⟨fun q => absurd q.2.1 hn, fun _ => ?_⟩
      unfold F_law_change_due f_law_change_due
      refine' run_of [some (.sh (.int n)), some (.sh (.str (txt cs))), none, none] rfl rfl ?_ fin_ret
      repeat' (first|(with_reducible first|assumption|exact Qa|exact Qb|exact Qc|apply Qd|exact Qe|apply Qf|exact Qg|apply Qh|exact Qi|apply Qj|exact Qk|apply Ql|apply Qm|exact Qn|exact Qo|apply Qp|exact Qq|exact Qr|apply Qs|exact Qt|exact Qu|exact Qv|exact Qw|exact Qx|exact Qy|exact Qz|apply QA|apply QB|apply QC|apply QD|apply QE|apply QF|apply QG|apply QH|apply QI|apply QJ|apply QK|apply QL|apply QM|apply QN|apply QO|apply QP|apply QQ|apply QR|apply QS|apply QT|apply QU|apply QV|apply QW|apply QX|apply QY|apply QZ|apply Q0|apply Q1|apply Q2|apply Q3|apply Q4|apply Q5|apply Q6|apply Q7|apply Q8|apply Q9|apply Xa|apply Xb|apply Xc|apply Xd|apply Xe|apply Xf|apply Xg|apply Xh|apply Xi|exact Xj|apply Xk.ok|exact Xk.exc|apply Xl.ok|exact Xl.exc|apply Xm.ok|exact Xm.exc|apply Xn.ok|exact Xn.exc|apply Xo.ok|exact Xo.exc|apply Xp.ok|exact Xp.exc|apply Xq.ok|exact Xq.exc|apply Xr.ok|exact Xr.exc|apply Xs.ok|exact Xs.exc|apply Xu.ok|exact Xu.exc|apply Xv.ok|exact Xv.exc|apply Xw.ok|exact Xw.exc|apply Xx.ok|exact Xx.exc|apply Xy.ok|exact Xy.exc|apply Xz.ok|exact Xz.exc|apply XA.ok|exact XA.exc|apply XB.ok|exact XB.exc|apply XC.ok|exact XC.exc|apply XD.ok|exact XD.exc|apply XE.ok|exact XE.exc|apply XF.ok|exact XF.exc|apply XG.ok|exact XG.exc|apply XH.ok|exact XH.exc|apply XI.ok|exact XI.exc|exact XJ.t|exact XJ.f|exact XJ.exc|apply XK.t|exact XK.f|exact XK.exc|exact XM.t|apply XM.f|exact XM.exc|apply XN.t|exact XN.f|apply XO.andT|exact XO.andF|apply XO.orF|exact XO.orT|apply XQ.next|exact XQ.ret|exact XQ.exc|exact XQ.cont|exact XQ.brk|apply XR.t|apply XR.f|exact XR.exc|exact XS.ok|apply XS.exc|exact XT|apply XU|apply XV.next|exact XV.ret|exact XV.exc|exact XW|exact XX)|exact XY rfl|apply XZ rfl Qa|apply XZ rfl Qb|exact (rfl : listFree _ = true)|exact X0 rfl|apply X1 rfl|exact X2 rfl|exact X3 rfl|exact (rfl : (_ : Option _) = some _)|decide)
theorem F_change_due_other (K : Frag) (dn d : D) (hc : calm d = true) (h : ∀ x, d ≠ .str x) : F_law_change_due K [dn, d] = .ok (.sh .none) := by
  have e := isStr_eq K d hc
  have e' : isInstI K [d, .glob (.type "str")] = some (.sh (.bool false)) := by
    rw [e]
    cases d <;> first | rfl | exact absurd rfl (h _)
  clear e
  unfold F_law_change_due f_law_change_due
  refine' run_of [some (.sh dn), some (.sh d), none, none] rfl rfl ?_ fin_ret
  repeat' (first|(with_reducible first|assumption|exact Qa|exact Qb|exact Qc|apply Qd|exact Qe|apply Qf|exact Qg|apply Qh|exact Qi|apply Qj|exact Qk|apply Ql|apply Qm|exact Qn|exact Qo|apply Qp|exact Qq|exact Qr|apply Qs|exact Qt|exact Qu|exact Qv|exact Qw|exact Qx|exact Qy|exact Qz|apply QA|apply QB|apply QC|apply QD|apply QE|apply QF|apply QG|apply QH|apply QI|apply QJ|apply QK|apply QL|apply QM|apply QN|apply QO|apply QP|apply QQ|apply QR|apply QS|apply QT|apply QU|apply QV|apply QW|apply QX|apply QY|apply QZ|apply Q0|apply Q1|apply Q2|apply Q3|apply Q4|apply Q5|apply Q6|apply Q7|apply Q8|apply Q9|apply Xa|apply Xb|apply Xc|apply Xd|apply Xe|apply Xf|apply Xg|apply Xh|apply Xi|exact Xj|apply Xk.ok|exact Xk.exc|apply Xl.ok|exact Xl.exc|apply Xm.ok|exact Xm.exc|apply Xn.ok|exact Xn.exc|apply Xo.ok|exact Xo.exc|apply Xp.ok|exact Xp.exc|apply Xq.ok|exact Xq.exc|apply Xr.ok|exact Xr.exc|apply Xs.ok|exact Xs.exc|apply Xu.ok|exact Xu.exc|apply Xv.ok|exact Xv.exc|apply Xw.ok|exact Xw.exc|apply Xx.ok|exact Xx.exc|apply Xy.ok|exact Xy.exc|apply Xz.ok|exact Xz.exc|apply XA.ok|exact XA.exc|apply XB.ok|exact XB.exc|apply XC.ok|exact XC.exc|apply XD.ok|exact XD.exc|apply XE.ok|exact XE.exc|apply XF.ok|exact XF.exc|apply XG.ok|exact XG.exc|apply XH.ok|exact XH.exc|apply XI.ok|exact XI.exc|exact XJ.t|exact XJ.f|exact XJ.exc|apply XK.t|exact XK.f|exact XK.exc|exact XM.t|apply XM.f|exact XM.exc|apply XN.t|exact XN.f|apply XO.andT|exact XO.andF|apply XO.orF|exact XO.orT|apply XQ.next|exact XQ.ret|exact XQ.exc|exact XQ.cont|exact XQ.brk|apply XR.t|apply XR.f|exact XR.exc|exact XS.ok|apply XS.exc|exact XT|apply XU|apply XV.next|exact XV.ret|exact XV.exc|exact XW|exact XX)|exact XY rfl|apply XZ rfl Qa|apply XZ rfl Qb|exact (rfl : listFree _ = true)|exact X0 rfl|apply X1 rfl|exact X2 rfl|exact X3 rfl|exact (rfl : (_ : Option _) = some _)|decide)
theorem chOk_ge {n : Nat} : ∀ {cs : List Nat} {lo : Nat}, chOk n lo cs = true → ∀ x ∈ cs, lo ≤ x
  | [], _, _, x, hx => by cases hx
  | p :: r, lo, h, x, hx => by
    rw [chOk] at h
    simp only [Bool.and_eq_true, decide_eq_true_eq] at h
    cases hx with
    | head => exact h.1.1
    | tail _ hx => have := chOk_ge h.2 x hx; omega
theorem chOk_cons {n lo p : Nat} {r : List Nat} : chOk n lo (p :: r) = true ↔ lo ≤ p ∧ p + 2 ≤ n ∧ chOk n (p + 2) r = true := by
  rw [chOk]
  simp only [Bool.and_eq_true, decide_eq_true_eq, and_assoc]
theorem chOk_down {n lo lo' : Nat} {cs : List Nat} (h : chOk n lo cs = true) (hl : lo' ≤ lo) : chOk n lo' cs = true := by
  cases cs with
  | nil => rfl
  | cons p r =>
    rw [chOk_cons] at h ⊢
    exact ⟨by omega, h.2⟩
theorem prevIn_true {fs : List Nat} {q : Nat} (h : prevIn fs q = true) : 1 ≤ q ∧ q - 1 ∈ fs := by
  cases q with
  | zero => cases h
  | succ q => exact ⟨by omega, by simpa [prevIn] using h⟩
theorem stays_free {fs : List Nat} {p : Nat} (h : ∀ x ∈ fs, x + 2 ≤ p ∨ p < x) : stays fs p = true := by
  unfold stays
  rw [Bool.and_eq_true_iff]
  constructor
  · rw [decide_eq_false (fun q => by have := h p q; omega)]; rfl
  · cases hq : prevIn fs p with
    | false => rfl
    | true =>
      obtain ⟨h1, h2⟩ := prevIn_true hq
      have := h _ h2
      omega
theorem stays_at {fs : List Nat} {p : Nat} (h : p ∈ fs) : stays fs p = false := by
  unfold stays; rw [decide_eq_true h]; rfl
theorem stays_next {fs : List Nat} {p : Nat} (h : p ∈ fs) : stays fs (p + 1) = false := by
  unfold stays
  rw [show prevIn fs (p + 1) = true from decide_eq_true h]; simp
theorem dB_good {n : Nat} {cs fs : List Nat} (hM : ∀ q, q < n → (sgAt q ∈ cs ↔ stays fs q = true)) : ∀ (m p : Nat) (done r : List Nat), fs = done ++ r → (∀ d ∈ done, d + 2 ≤ p) → chOk n p r = true → n + 1 < p + m → p ≤ n + 1 → dB n cs m p done = fs
  | 0, p, done, r, _, _, _, h4, h5 => by omega
  | m + 1, p, done, r, h1, h2, h3, h4, h5 => by
    rw [dB]
    by_cases hp : p < n
    · rw [if_pos hp]
      cases r with
      | nil =>
        rw [if_pos ((hM p hp).mpr (stays_free fun x hx => by rw [h1, List.append_nil] at hx; exact .inl (h2 x hx)))]
        exact dB_good hM m (p + 1) done [] h1 (fun d hd => by have := h2 d hd; omega) rfl (by omega) (by omega)
      | cons x r =>
        rw [chOk_cons] at h3
        by_cases hx : x = p
        · subst hx
          rw [if_neg (fun q => by have := (hM x hp).mp q; rw [stays_at (by rw [h1]; simp)] at this; cases this)]
          exact dB_good hM m (x + 2) (done ++ [x]) r (by rw [h1]; simp) (fun d hd => by
            rw [List.mem_append, List.mem_singleton] at hd
            rcases hd with hd | rfl
            · have := h2 d hd; omega
            · omega) h3.2.2 (by omega) (by omega)
        · rw [if_pos ((hM p hp).mpr (stays_free fun y hy => by
            rw [h1, List.mem_append, List.mem_cons] at hy
            rcases hy with hy | rfl | hy
            · exact .inl (h2 y hy)
            · exact .inr (by omega)
            · have := chOk_ge h3.2.2 y hy; exact .inr (by omega)))]
          exact dB_good hM m (p + 1) done (x :: r) h1 (fun d hd => by have := h2 d hd; omega) (chOk_cons.mpr ⟨by omega, h3.2⟩) (by omega) (by omega)
    · rw [if_neg hp]
      cases r with
      | nil => rw [h1, List.append_nil]
      | cons x r => rw [chOk_cons] at h3; omega
theorem pB_good {n : Nat} {ss fs : List Nat} (hM : ∀ q, q < n → (q ∈ ss ↔ stays fs q = true)) : ∀ (m p : Nat) (done r : List Nat), fs = done ++ r → (∀ d ∈ done, d + 2 ≤ p) → chOk n p r = true → n < p + m → p ≤ n → pB n ss m p done = some fs
  | 0, p, done, r, _, _, _, h4, h5 => by omega
  | m + 1, p, done, r, h1, h2, h3, h4, h5 => by
    rw [pB]
    by_cases hp : p < n
    · rw [if_pos hp]
      cases r with
      | nil =>
        rw [if_pos ((hM p hp).mpr (stays_free fun x hx => by rw [h1, List.append_nil] at hx; exact .inl (h2 x hx)))]
        exact pB_good hM m (p + 1) done [] h1 (fun d hd => by have := h2 d hd; omega) rfl (by omega) (by omega)
      | cons x r =>
        rw [chOk_cons] at h3
        by_cases hx : x = p
        · subst hx
          have hm : x ∈ fs := by rw [h1]; simp
          rw [if_neg (fun q => by have := (hM x hp).mp q; rw [stays_at hm] at this; cases this), if_pos ⟨by omega, fun q => by have := (hM (x + 1) (by omega)).mp q; rw [stays_next hm] at this; cases this⟩]
          exact pB_good hM m (x + 2) (done ++ [x]) r (by rw [h1]; simp) (fun d hd => by
            rw [List.mem_append, List.mem_singleton] at hd
            rcases hd with hd | rfl
            · have := h2 d hd; omega
            · omega) h3.2.2 (by omega) (by omega)
        · rw [if_pos ((hM p hp).mpr (stays_free fun y hy => by
            rw [h1, List.mem_append, List.mem_cons] at hy
            rcases hy with hy | rfl | hy
            · exact .inl (h2 y hy)
            · exact .inr (by omega)
            · have := chOk_ge h3.2.2 y hy; exact .inr (by omega)))]
          exact pB_good hM m (p + 1) done (x :: r) h1 (fun d hd => by have := h2 d hd; omega) (chOk_cons.mpr ⟨by omega, h3.2⟩) (by omega) (by omega)
    · rw [if_neg hp]
      cases r with
      | nil => rw [h1, List.append_nil]
      | cons x r => rw [chOk_cons] at h3; omega
theorem mem_stayL {n : Nat} {fs : List Nat} {q : Nat} : q ∈ stayL n fs ↔ q < n ∧ stays fs q = true := by
  unfold stayL
  rw [List.mem_filter, List.mem_range]
theorem sgAt_inj {p q : Nat} (hp : p < 12) (hq : q < 12) (h : sgAt (p : Int) = sgAt (q : Int)) : p = q := by
  have h1 := idxOf_sgAt (p := (p : Int)) (by omega) (by omega)
  have h2 := idxOf_sgAt (p := (q : Int)) (by omega) (by omega)
  rw [h, h2] at h1; omega
theorem no_minus : ¬ (45 ∈ sg) := by decide
theorem stayT_mem {n : Nat} (hn : n ≤ 12) {fs : List Nat} {q : Nat} (hq : q < n) : sgAt (q : Int) ∈ stayT n fs ↔ stays fs q = true := by
  unfold stayT
  split
  · rename_i hz
    constructor
    · intro h
      have h1 : sgAt (q : Int) = 45 := List.mem_singleton.mp h
      have h2 := sgAt_mem (p := (q : Int)) (by omega) (by omega)
      rw [h1] at h2
      exact absurd h2 no_minus
    · intro h
      have : q ∈ stayL n fs := mem_stayL.mpr ⟨hq, h⟩
      rw [hz] at this; cases this
  · rw [List.mem_map]
    constructor
    · rintro ⟨p, hp, e⟩
      have h1 := mem_stayL.mp hp
      have := sgAt_inj (by omega) (by omega) e
      rw [← this]; exact h1.2
    · exact fun h => ⟨q, mem_stayL.mpr ⟨hq, h⟩, rfl⟩
theorem Good_due {n : Nat} (hn : n ≤ 12) {cs fs : List Nat} (hf : chOk n 0 fs = true) (ht : stayT n fs = cs) : dB n cs (n + 2) 0 [] = fs :=
  dB_good (fun q hq => by rw [← ht]; exact stayT_mem hn hq) (n + 2) 0 [] fs rfl (fun d hd => by cases hd) hf (by omega) (by omega)
theorem Good_beside {n : Nat} {fs : List Nat} (hf : chOk n 0 fs = true) : pB n (stayL n fs) (n + 1) 0 [] = some fs :=
  pB_good (fun q hq => by rw [mem_stayL]; exact ⟨fun h => h.2, fun h => ⟨hq, h⟩⟩) (n + 1) 0 [] fs rfl (fun d hd => by cases hd) hf (by omega) (by omega)
theorem dB_ch {n : Nat} {cs : List Nat} : ∀ (m p : Nat) (done : List Nat), (∀ r, chOk (n + 1) p r = true → chOk (n + 1) 0 (done ++ r) = true) → chOk (n + 1) 0 (dB n cs m p done) = true
  | 0, p, done, h => by have := h [] rfl; rwa [List.append_nil] at this
  | m + 1, p, done, h => by
    rw [dB]
    split
    · split
      · exact dB_ch m (p + 1) done fun r hr => h r (chOk_down hr (by omega))
      · exact dB_ch m (p + 2) (done ++ [p]) fun r hr => by
          rw [List.append_assoc]
          exact h _ (chOk_cons.mpr ⟨Nat.le_refl _, by omega, hr⟩)
    · have := h [] rfl; rwa [List.append_nil] at this
theorem chOk_last {n : Nat} : ∀ {fs : List Nat} {lo : Nat}, chOk (n + 1) lo fs = true → fs ≠ [] → fs.getD (fs.length - 1) 0 + 2 ≤ n → chOk n lo fs = true
  | [], _, _, h, _ => absurd rfl h
  | [p], lo, h, _, hl => by
    rw [chOk_cons] at h ⊢
    exact ⟨h.1, hl, rfl⟩
  | p :: q :: r, lo, h, _, hl => by
    rw [chOk_cons] at h ⊢
    have ih := chOk_last h.2.2 (by simp) (by simpa using hl)
    have := chOk_cons.mp ih
    exact ⟨h.1, by omega, ih⟩
theorem due_Good {n : Nat} {cs : List Nat} (h : CdOk n cs (dB n cs (n + 2) 0 [])) : chOk n 0 (dB n cs (n + 2) 0 []) = true :=
  chOk_last (dB_ch (n + 2) 0 [] fun r hr => hr) h.1 h.2.1
theorem pB_ok {n : Nat} {ss : List Nat} : ∀ (m p : Nat) (done fs : List Nat), pB n ss m p done = some fs → (∀ d ∈ done, d + 2 ≤ p) → (∀ r, chOk n p r = true → chOk n 0 (done ++ r) = true) → (∀ q, q < p → q < n → (q ∈ ss ↔ stays done q = true)) → chOk n 0 fs = true ∧ ∀ q, q < n → (q ∈ ss ↔ stays fs q = true)
  | 0, p, done, fs, h, _, _, _ => by cases h
  | m + 1, p, done, fs, h, h1, h2, h3 => by
    rw [pB] at h
    split at h
    · rename_i hp
      split at h
      · rename_i hq
        refine pB_ok m (p + 1) done fs h (fun d hd => by have := h1 d hd; omega) (fun r hr => h2 r (chOk_down hr (by omega))) fun q hq' hn => ?_
        by_cases e : q = p
        · subst e
          exact ⟨fun _ => stays_free fun x hx => .inl (h1 x hx), fun _ => hq⟩
        · exact h3 q (by omega) hn
      · rename_i hq
        split at h
        · rename_i hb
          refine pB_ok m (p + 2) (done ++ [p]) fs h (fun d hd => by
            rw [List.mem_append, List.mem_singleton] at hd
            rcases hd with hd | rfl
            · have := h1 d hd; omega
            · omega) (fun r hr => by
              rw [List.append_assoc]
              exact h2 _ (chOk_cons.mpr ⟨Nat.le_refl _, by omega, hr⟩)) fun q hq' hn => ?_
          have hm : p ∈ done ++ [p] := by simp
          by_cases e : q = p
          · subst e
            rw [stays_at hm]
            exact ⟨fun x => absurd x hq, fun x => by cases x⟩
          · by_cases e2 : q = p + 1
            · subst e2
              rw [stays_next hm]
              exact ⟨fun x => absurd x hb.2, fun x => by cases x⟩
            · rw [h3 q (by omega) hn]
              have same : stays (done ++ [p]) q = stays done q := by
                unfold stays
                have a : decide (q ∈ done ++ [p]) = decide (q ∈ done) := decide_eq_decide.mpr (by simp [e])
                have b : prevIn (done ++ [p]) q = prevIn done q := by
                  cases q with
                  | zero => rfl
                  | succ q => exact decide_eq_decide.mpr (by simp; omega)
                rw [a, b]
              rw [same]
        · cases h
    · rename_i hp
      cases h
      have h0 := h2 [] rfl
      rw [List.append_nil] at h0
      exact ⟨h0, fun q hq => h3 q (by omega) hq⟩
theorem Rising.lt {ss : List Nat} (h : Rising ss) : ss.Pairwise (· < ·) := by
  rw [List.pairwise_iff_getElem]
  intro i j hi hj hij
  have key : ∀ k, i + 1 + k < ss.length → ss.getD i 0 < ss.getD (i + 1 + k) 0 := by
    intro k
    induction k with
    | zero => intro hk; exact h (i + 1) (by omega) hk
    | succ k ih =>
      intro hk
      have h1 := ih (by omega)
      have h2 := h (i + 1 + (k + 1)) (by omega) hk
      rw [show i + 1 + (k + 1) - 1 = i + 1 + k by omega] at h2
      omega
  have := key (j - (i + 1)) (by omega)
  rw [show i + 1 + (j - (i + 1)) = j by omega, List.getD_eq_getElem?_getD, List.getD_eq_getElem?_getD, List.getElem?_eq_getElem hi, List.getElem?_eq_getElem hj] at this
  exact this
theorem asc_uniq {a b : List Nat} (ha : a.Pairwise (· < ·)) (hb : b.Pairwise (· < ·)) (h : ∀ x, x ∈ a ↔ x ∈ b) : a = b := by
  have na : a.Nodup := ha.imp fun h => by omega
  have nb : b.Nodup := hb.imp fun h => by omega
  have p : a.Perm b := (List.perm_ext_iff_of_nodup na nb).mpr h
  exact List.Perm.eq_of_pairwise (fun x y _ _ h1 h2 => by omega) (ha.imp fun h => Nat.le_of_lt h) (hb.imp fun h => Nat.le_of_lt h) p
theorem stayL_asc (n : Nat) (fs : List Nat) : (stayL n fs).Pairwise (· < ·) := (List.pairwise_lt_range (n := n)).filter _
theorem ixN_sgAt {p : Nat} (h : p < 12) : ixN (sgAt (p : Int)) = p := by
  have := idxOf_sgAt (p := (p : Int)) (by omega) (by omega)
  unfold idxOf at this
  unfold ixN; omega
theorem sgAt_ixN {c : Nat} (h : c ∈ sg) : sgAt ((ixN c : Nat) : Int) = c := sgAt_idxOf h
end Mine
end

section
set_option Elab.async false
set_option maxRecDepth 100000
set_option maxHeartbeats 4000000
set_option linter.unusedSimpArgs false
set_option linter.unusedVariables false
namespace Mine
open PySem PySem.W
theorem le_last {ss : List Nat} (h : Rising ss) {x : Nat} (hx : x ∈ ss) : x ≤ ss.getD (ss.length - 1) 0 := by
  obtain ⟨i, hi, rfl⟩ := List.mem_iff_getElem.mp hx
  have hp := List.pairwise_iff_getElem.mp h.lt
  by_cases e : i = ss.length - 1
  · subst e
    rw [List.getD_eq_getElem?_getD, List.getElem?_eq_getElem hi]; exact Nat.le_refl _
  · have := hp i (ss.length - 1) hi (by omega) (by omega)
    rw [List.getD_eq_getElem?_getD, List.getElem?_eq_getElem (by omega)]
    exact Nat.le_of_lt this
theorem asc_Rising {ss : List Nat} (h : ss.Pairwise (· < ·)) : Rising ss := fun i h1 h2 => by
  have := List.pairwise_iff_getElem.mp h (i - 1) i (by omega) h2 (by omega)
  rw [List.getD_eq_getElem?_getD, List.getD_eq_getElem?_getD, List.getElem?_eq_getElem (by omega), List.getElem?_eq_getElem h2]
  exact this
theorem np_some {X : Option (List Nat)} {fs : List Nat} (h : np X = some fs) : X = some fs ∧ fs ≠ [] := by
  cases X with
  | none => cases h
  | some l =>
    cases l with
    | nil => cases h
    | cons p r => cases h; exact ⟨rfl, by simp⟩
theorem np_of {fs : List Nat} (h : fs ≠ []) : np (some fs) = some fs := by
  cases fs with
  | nil => exact absurd rfl h
  | cons p r => rfl
theorem last_le {n : Nat} {fs : List Nat} (hf : chOk n 0 fs = true) (hz : fs ≠ []) : fs.getD (fs.length - 1) 0 + 2 ≤ n := by
  have hp := List.length_pos_iff.mpr hz
  refine chOk_le hf _ ?_
  rw [List.getD_eq_getElem?_getD, List.getElem?_eq_getElem (by omega)]
  exact List.getElem_mem _
theorem stayT_minus {n : Nat} (hn : n ≤ 12) {fs : List Nat} (h : stayT n fs = [45]) : stayL n fs = [] := by
  unfold stayT at h
  split at h
  · assumption
  · rename_i hz
    exfalso
    obtain ⟨p, r, e⟩ := List.exists_cons_of_ne_nil hz
    rw [e, List.map_cons] at h
    injection h with h1 _
    have hp : p < n := stayL_lt (by rw [e]; exact .head _)
    have := sgAt_mem (p := (p : Int)) (by omega) (by omega)
    rw [h1] at this
    exact no_minus this
theorem stayT_ix {n : Nat} (hn : n ≤ 12) {fs : List Nat} (hz : stayL n fs ≠ []) : (stayT n fs).map ixN = stayL n fs := by
  unfold stayT
  rw [if_neg hz, List.map_map]
  have : ∀ p ∈ stayL n fs, (ixN ∘ fun (p : Nat) => sgAt p) p = id p := fun p hp => ixN_sgAt (by have := stayL_lt hp; omega)
  rw [List.map_congr_left this, List.map_id]
theorem map_ixN {cs : List Nat} (h : ∀ c ∈ cs, c ∈ sg) : (cs.map ixN).map (fun (p : Nat) => sgAt p) = cs := by
  rw [List.map_map]
  have : ∀ c ∈ cs, ((fun (p : Nat) => sgAt p) ∘ ixN) c = id c := fun c hc => sgAt_ixN (h c hc)
  rw [List.map_congr_left this, List.map_id]
theorem change_agree (K : Frag) {n : Nat} {cs : List Nat} (h3 : 3 ≤ n) (h12 : n ≤ 12) (hc : ∀ c ∈ cs, c < 128) (hl : cs.length ≤ 1000) :
    (∃ fs, F_change_of K [.int n, .str (txt cs)] = .ok (.sh (.tup (nD fs))) ∧ F_law_change_due K [.int n, .str (txt cs)] = .ok (.sh (.tup (nD fs))) ∧ fs.length ≤ 12) ∨ (F_change_of K [.int n, .str (txt cs)] = .exc 109 ∧ F_law_change_due K [.int n, .str (txt cs)] = .ok (.sh .none)) := by
  have due := F_change_due_txt K h3 h12 hc
  by_cases hd : CdOk n cs (dB n cs (n + 2) 0 [])
  · left
    have hf := due_Good hd
    refine ⟨_, ?_, due.1 hd, by have := chOk_len hf (Nat.zero_le _); omega⟩
    obtain ⟨hz, hlast, ht⟩ := hd
    generalize dB n cs (n + 2) 0 [] = fs at hf hz hlast ht
    have hb := Good_beside hf
    by_cases hm : cs = [45]
    · rw [hm] at ht ⊢
      rw [F_change_of_minus K h3 h12, F_pairs_beside_eq K h12]
      rw [stayT_minus h12 ht] at hb
      rw [hb, np_of hz]
    · have hs : stayL n fs ≠ [] := fun q => hm (by rw [← ht]; unfold stayT; rw [if_pos q])
      have hix := stayT_ix h12 hs
      rw [ht] at hix
      have hlen : (stayL n fs).length = cs.length := by rw [← hix, List.length_map]
      have hco : CoOk n cs := by
        refine ⟨fun c hc' => ?_, fun q => ?_, ?_, ?_⟩
        · rw [← ht] at hc'
          unfold stayT at hc'
          rw [if_neg hs] at hc'
          obtain ⟨p, hp, rfl⟩ := List.mem_map.mp hc'
          have := stayL_lt hp
          exact sgAt_mem (by omega) (by omega)
        · rw [q] at hlen
          exact hs (List.length_eq_zero_iff.mp hlen)
        · rw [hix, ← hlen]
          have hp := List.length_pos_iff.mpr hs
          refine stayL_lt (cs := fs) ?_
          rw [List.getD_eq_getElem?_getD, List.getElem?_eq_getElem (by omega)]
          exact List.getElem_mem _
        · rw [hix]; exact asc_Rising (stayL_asc n fs)
      rw [(F_change_of_txt K h3 h12 hc hl hm).1 hco, F_pairs_beside_eq K h12, hix, hb, np_of hz]
  · right
    refine ⟨?_, due.2 hd⟩
    by_cases hm : cs = [45]
    · subst hm
      rw [F_change_of_minus K h3 h12, F_pairs_beside_eq K h12]
      cases hX : np (pB n [] (n + 1) 0 []) with
      | none => rfl
      | some fs =>
        exfalso
        obtain ⟨h1, hz⟩ := np_some hX
        obtain ⟨hf, hq⟩ := pB_ok (n + 1) 0 [] fs h1 (fun d hd => by cases hd) (fun r hr => hr) (fun q hq => by omega)
        have hs : stayL n fs = [] := by
          cases e : stayL n fs with
          | nil => rfl
          | cons p r =>
            have := mem_stayL.mp (show p ∈ stayL n fs by rw [e]; exact .head _)
            have := (hq p this.1).mpr this.2
            cases this
        have ht : stayT n fs = [45] := by unfold stayT; rw [if_pos hs]
        exact hd (by rw [Good_due h12 hf ht]; exact ⟨hz, last_le hf hz, ht⟩)
    · by_cases hco : CoOk n cs
      · rw [(F_change_of_txt K h3 h12 hc hl hm).1 hco, F_pairs_beside_eq K h12]
        cases hX : np (pB n (cs.map ixN) (n + 1) 0 []) with
        | none => rfl
        | some fs =>
          exfalso
          obtain ⟨h1, hz⟩ := np_some hX
          obtain ⟨hf, hq⟩ := pB_ok (n + 1) 0 [] fs h1 (fun d hd => by cases hd) (fun r hr => hr) (fun q hq => by omega)
          obtain ⟨c1, c2, c3, c4⟩ := hco
          have hs : stayL n fs = cs.map ixN := asc_uniq (stayL_asc n fs) c4.lt fun x => by
            rw [mem_stayL]
            constructor
            · exact fun h => (hq x h.1).mpr h.2
            · intro h
              have h2 := le_last c4 h
              rw [List.length_map] at h2
              have h3 : x < n := by omega
              exact ⟨h3, (hq x h3).mp h⟩
          have ht : stayT n fs = cs := by
            unfold stayT
            rw [if_neg (by rw [hs]; intro q; exact c2 (List.map_eq_nil_iff.mp q)), hs, map_ixN c1]
          exact hd (by rw [Good_due h12 hf ht]; exact ⟨hz, last_le hf hz, ht⟩)
      · exact (F_change_of_txt K h3 h12 hc hl hm).2 hco
structure KF (K : Frag) : Prop where
  bells : ExcI K 37 0
  row : ExcI K 49 1
  change : ExcI K 61 2
  text : ExcI K 109 6
section
variable (K : Frag) {C : Addr} {i : Nat} (hi : i < 7) (k : ExcI K C i) (d e : D)
include hi k
theorem told0_bad (h : F_row_text K [d] = .exc C) : F_law_told K [.int 0, d, e] = .ok (.ow true (.list [.str "refused", .str (wordOf i)])) := by
  have a1 := eqI_t 0
  have a2 := F_law_word_ok K C i hi k
  unfold told at a2
  have a3 := k.m
  unfold F_law_told f_law_told
  refine' run_of [some (.sh (.int 0)), some (.sh d), some (.sh e), none] rfl rfl ?_ fin_ret
  repeat' (first|(with_reducible first|assumption|exact Qa|exact Qb|exact Qc|apply Qd|exact Qe|apply Qf|exact Qg|apply Qh|exact Qi|apply Qj|exact Qk|apply Ql|apply Qm|exact Qn|exact Qo|apply Qp|exact Qq|exact Qr|apply Qs|exact Qt|exact Qu|exact Qv|exact Qw|exact Qx|exact Qy|exact Qz|apply QA|apply QB|apply QC|apply QD|apply QE|apply QF|apply QG|apply QH|apply QI|apply QJ|apply QK|apply QL|apply QM|apply QN|apply QO|apply QP|apply QQ|apply QR|apply QS|apply QT|apply QU|apply QV|apply QW|apply QX|apply QY|apply QZ|apply Q0|apply Q1|apply Q2|apply Q3|apply Q4|apply Q5|apply Q6|apply Q7|apply Q8|apply Q9|apply Xa|apply Xb|apply Xc|apply Xd|apply Xe|apply Xf|apply Xg|apply Xh|apply Xi|exact Xj|apply Xk.ok|exact Xk.exc|apply Xl.ok|exact Xl.exc|apply Xm.ok|exact Xm.exc|apply Xn.ok|exact Xn.exc|apply Xo.ok|exact Xo.exc|apply Xp.ok|exact Xp.exc|apply Xq.ok|exact Xq.exc|apply Xr.ok|exact Xr.exc|apply Xs.ok|exact Xs.exc|apply Xu.ok|exact Xu.exc|apply Xv.ok|exact Xv.exc|apply Xw.ok|exact Xw.exc|apply Xx.ok|exact Xx.exc|apply Xy.ok|exact Xy.exc|apply Xz.ok|exact Xz.exc|apply XA.ok|exact XA.exc|apply XB.ok|exact XB.exc|apply XC.ok|exact XC.exc|apply XD.ok|exact XD.exc|apply XE.ok|exact XE.exc|apply XF.ok|exact XF.exc|apply XG.ok|exact XG.exc|apply XH.ok|exact XH.exc|apply XI.ok|exact XI.exc|exact XJ.t|exact XJ.f|exact XJ.exc|apply XK.t|exact XK.f|exact XK.exc|exact XM.t|apply XM.f|exact XM.exc|apply XN.t|exact XN.f|apply XO.andT|exact XO.andF|apply XO.orF|exact XO.orT|apply XQ.next|exact XQ.ret|exact XQ.exc|exact XQ.cont|exact XQ.brk|apply XR.t|apply XR.f|exact XR.exc|exact XS.ok|apply XS.exc|exact XT|apply XU|apply XV.next|exact XV.ret|exact XV.exc|exact XW|exact XX)|exact XY rfl|apply XZ rfl Qa|apply XZ rfl Qb|exact (rfl : listFree _ = true)|exact X0 rfl|apply X1 rfl|exact X2 rfl|exact X3 rfl|exact (rfl : (_ : Option _) = some _)|decide)
theorem told1_bad (h : F_row_of K [d] = .exc C) : F_law_told K [.int 1, d, e] = .ok (.ow true (.list [.str "refused", .str (wordOf i)])) := by
  have a0 := eqI_f (a := 1) (b := 0) (by decide)
  have a1 := eqI_t 1
  have a2 := F_law_word_ok K C i hi k
  unfold told at a2
  have a3 := k.m
  unfold F_law_told f_law_told
  refine' run_of [some (.sh (.int 1)), some (.sh d), some (.sh e), none] rfl rfl ?_ fin_ret
  repeat' (first|(with_reducible first|assumption|exact Qa|exact Qb|exact Qc|apply Qd|exact Qe|apply Qf|exact Qg|apply Qh|exact Qi|apply Qj|exact Qk|apply Ql|apply Qm|exact Qn|exact Qo|apply Qp|exact Qq|exact Qr|apply Qs|exact Qt|exact Qu|exact Qv|exact Qw|exact Qx|exact Qy|exact Qz|apply QA|apply QB|apply QC|apply QD|apply QE|apply QF|apply QG|apply QH|apply QI|apply QJ|apply QK|apply QL|apply QM|apply QN|apply QO|apply QP|apply QQ|apply QR|apply QS|apply QT|apply QU|apply QV|apply QW|apply QX|apply QY|apply QZ|apply Q0|apply Q1|apply Q2|apply Q3|apply Q4|apply Q5|apply Q6|apply Q7|apply Q8|apply Q9|apply Xa|apply Xb|apply Xc|apply Xd|apply Xe|apply Xf|apply Xg|apply Xh|apply Xi|exact Xj|apply Xk.ok|exact Xk.exc|apply Xl.ok|exact Xl.exc|apply Xm.ok|exact Xm.exc|apply Xn.ok|exact Xn.exc|apply Xo.ok|exact Xo.exc|apply Xp.ok|exact Xp.exc|apply Xq.ok|exact Xq.exc|apply Xr.ok|exact Xr.exc|apply Xs.ok|exact Xs.exc|apply Xu.ok|exact Xu.exc|apply Xv.ok|exact Xv.exc|apply Xw.ok|exact Xw.exc|apply Xx.ok|exact Xx.exc|apply Xy.ok|exact Xy.exc|apply Xz.ok|exact Xz.exc|apply XA.ok|exact XA.exc|apply XB.ok|exact XB.exc|apply XC.ok|exact XC.exc|apply XD.ok|exact XD.exc|apply XE.ok|exact XE.exc|apply XF.ok|exact XF.exc|apply XG.ok|exact XG.exc|apply XH.ok|exact XH.exc|apply XI.ok|exact XI.exc|exact XJ.t|exact XJ.f|exact XJ.exc|apply XK.t|exact XK.f|exact XK.exc|exact XM.t|apply XM.f|exact XM.exc|apply XN.t|exact XN.f|apply XO.andT|exact XO.andF|apply XO.orF|exact XO.orT|apply XQ.next|exact XQ.ret|exact XQ.exc|exact XQ.cont|exact XQ.brk|apply XR.t|apply XR.f|exact XR.exc|exact XS.ok|apply XS.exc|exact XT|apply XU|apply XV.next|exact XV.ret|exact XV.exc|exact XW|exact XX)|exact XY rfl|apply XZ rfl Qa|apply XZ rfl Qb|exact (rfl : listFree _ = true)|exact X0 rfl|apply X1 rfl|exact X2 rfl|exact X3 rfl|exact (rfl : (_ : Option _) = some _)|decide)
theorem told2_bad (h : F_change_text K [d, e] = .exc C) : F_law_told K [.int 2, d, e] = .ok (.ow true (.list [.str "refused", .str (wordOf i)])) := by
  have a0 := eqI_f (a := 2) (b := 0) (by decide)
  have a1 := eqI_f (a := 2) (b := 1) (by decide)
  have a4 := eqI_t 2
  have a2 := F_law_word_ok K C i hi k
  unfold told at a2
  have a3 := k.m
  unfold F_law_told f_law_told
  refine' run_of [some (.sh (.int 2)), some (.sh d), some (.sh e), none] rfl rfl ?_ fin_ret
  repeat' (first|(with_reducible first|assumption|exact Qa|exact Qb|exact Qc|apply Qd|exact Qe|apply Qf|exact Qg|apply Qh|exact Qi|apply Qj|exact Qk|apply Ql|apply Qm|exact Qn|exact Qo|apply Qp|exact Qq|exact Qr|apply Qs|exact Qt|exact Qu|exact Qv|exact Qw|exact Qx|exact Qy|exact Qz|apply QA|apply QB|apply QC|apply QD|apply QE|apply QF|apply QG|apply QH|apply QI|apply QJ|apply QK|apply QL|apply QM|apply QN|apply QO|apply QP|apply QQ|apply QR|apply QS|apply QT|apply QU|apply QV|apply QW|apply QX|apply QY|apply QZ|apply Q0|apply Q1|apply Q2|apply Q3|apply Q4|apply Q5|apply Q6|apply Q7|apply Q8|apply Q9|apply Xa|apply Xb|apply Xc|apply Xd|apply Xe|apply Xf|apply Xg|apply Xh|apply Xi|exact Xj|apply Xk.ok|exact Xk.exc|apply Xl.ok|exact Xl.exc|apply Xm.ok|exact Xm.exc|apply Xn.ok|exact Xn.exc|apply Xo.ok|exact Xo.exc|apply Xp.ok|exact Xp.exc|apply Xq.ok|exact Xq.exc|apply Xr.ok|exact Xr.exc|apply Xs.ok|exact Xs.exc|apply Xu.ok|exact Xu.exc|apply Xv.ok|exact Xv.exc|apply Xw.ok|exact Xw.exc|apply Xx.ok|exact Xx.exc|apply Xy.ok|exact Xy.exc|apply Xz.ok|exact Xz.exc|apply XA.ok|exact XA.exc|apply XB.ok|exact XB.exc|apply XC.ok|exact XC.exc|apply XD.ok|exact XD.exc|apply XE.ok|exact XE.exc|apply XF.ok|exact XF.exc|apply XG.ok|exact XG.exc|apply XH.ok|exact XH.exc|apply XI.ok|exact XI.exc|exact XJ.t|exact XJ.f|exact XJ.exc|apply XK.t|exact XK.f|exact XK.exc|exact XM.t|apply XM.f|exact XM.exc|apply XN.t|exact XN.f|apply XO.andT|exact XO.andF|apply XO.orF|exact XO.orT|apply XQ.next|exact XQ.ret|exact XQ.exc|exact XQ.cont|exact XQ.brk|apply XR.t|apply XR.f|exact XR.exc|exact XS.ok|apply XS.exc|exact XT|apply XU|apply XV.next|exact XV.ret|exact XV.exc|exact XW|exact XX)|exact XY rfl|apply XZ rfl Qa|apply XZ rfl Qb|exact (rfl : listFree _ = true)|exact X0 rfl|apply X1 rfl|exact X2 rfl|exact X3 rfl|exact (rfl : (_ : Option _) = some _)|decide)
theorem told3_bad (h : F_change_of K [d, e] = .exc C) : F_law_told K [.int 3, d, e] = .ok (.ow true (.list [.str "refused", .str (wordOf i)])) := by
  have a0 := eqI_f (a := 3) (b := 0) (by decide)
  have a1 := eqI_f (a := 3) (b := 1) (by decide)
  have a4 := eqI_f (a := 3) (b := 2) (by decide)
  have a2 := F_law_word_ok K C i hi k
  unfold told at a2
  have a3 := k.m
  unfold F_law_told f_law_told
  refine' run_of [some (.sh (.int 3)), some (.sh d), some (.sh e), none] rfl rfl ?_ fin_ret
  repeat' (first|(with_reducible first|assumption|exact Qa|exact Qb|exact Qc|apply Qd|exact Qe|apply Qf|exact Qg|apply Qh|exact Qi|apply Qj|exact Qk|apply Ql|apply Qm|exact Qn|exact Qo|apply Qp|exact Qq|exact Qr|apply Qs|exact Qt|exact Qu|exact Qv|exact Qw|exact Qx|exact Qy|exact Qz|apply QA|apply QB|apply QC|apply QD|apply QE|apply QF|apply QG|apply QH|apply QI|apply QJ|apply QK|apply QL|apply QM|apply QN|apply QO|apply QP|apply QQ|apply QR|apply QS|apply QT|apply QU|apply QV|apply QW|apply QX|apply QY|apply QZ|apply Q0|apply Q1|apply Q2|apply Q3|apply Q4|apply Q5|apply Q6|apply Q7|apply Q8|apply Q9|apply Xa|apply Xb|apply Xc|apply Xd|apply Xe|apply Xf|apply Xg|apply Xh|apply Xi|exact Xj|apply Xk.ok|exact Xk.exc|apply Xl.ok|exact Xl.exc|apply Xm.ok|exact Xm.exc|apply Xn.ok|exact Xn.exc|apply Xo.ok|exact Xo.exc|apply Xp.ok|exact Xp.exc|apply Xq.ok|exact Xq.exc|apply Xr.ok|exact Xr.exc|apply Xs.ok|exact Xs.exc|apply Xu.ok|exact Xu.exc|apply Xv.ok|exact Xv.exc|apply Xw.ok|exact Xw.exc|apply Xx.ok|exact Xx.exc|apply Xy.ok|exact Xy.exc|apply Xz.ok|exact Xz.exc|apply XA.ok|exact XA.exc|apply XB.ok|exact XB.exc|apply XC.ok|exact XC.exc|apply XD.ok|exact XD.exc|apply XE.ok|exact XE.exc|apply XF.ok|exact XF.exc|apply XG.ok|exact XG.exc|apply XH.ok|exact XH.exc|apply XI.ok|exact XI.exc|exact XJ.t|exact XJ.f|exact XJ.exc|apply XK.t|exact XK.f|exact XK.exc|exact XM.t|apply XM.f|exact XM.exc|apply XN.t|exact XN.f|apply XO.andT|exact XO.andF|apply XO.orF|exact XO.orT|apply XQ.next|exact XQ.ret|exact XQ.exc|exact XQ.cont|exact XQ.brk|apply XR.t|apply XR.f|exact XR.exc|exact XS.ok|apply XS.exc|exact XT|apply XU|apply XV.next|exact XV.ret|exact XV.exc|exact XW|exact XX)|exact XY rfl|apply XZ rfl Qa|apply XZ rfl Qb|exact (rfl : listFree _ = true)|exact X0 rfl|apply X1 rfl|exact X2 rfl|exact X3 rfl|exact (rfl : (_ : Option _) = some _)|decide)
end
theorem told1_ok (K : Frag) (d e : D) {t : T} (h : F_row_of K [d] = .ok t) : F_law_told K [.int 1, d, e] = .ok t := by
  have a0 := eqI_f (a := 1) (b := 0) (by decide)
  have a1 := eqI_t 1
  unfold F_law_told f_law_told
  refine' run_of [some (.sh (.int 1)), some (.sh d), some (.sh e), none] rfl rfl ?_ fin_ret
  repeat' (first|(with_reducible first|assumption|exact Qa|exact Qb|exact Qc|apply Qd|exact Qe|apply Qf|exact Qg|apply Qh|exact Qi|apply Qj|exact Qk|apply Ql|apply Qm|exact Qn|exact Qo|apply Qp|exact Qq|exact Qr|apply Qs|exact Qt|exact Qu|exact Qv|exact Qw|exact Qx|exact Qy|exact Qz|apply QA|apply QB|apply QC|apply QD|apply QE|apply QF|apply QG|apply QH|apply QI|apply QJ|apply QK|apply QL|apply QM|apply QN|apply QO|apply QP|apply QQ|apply QR|apply QS|apply QT|apply QU|apply QV|apply QW|apply QX|apply QY|apply QZ|apply Q0|apply Q1|apply Q2|apply Q3|apply Q4|apply Q5|apply Q6|apply Q7|apply Q8|apply Q9|apply Xa|apply Xb|apply Xc|apply Xd|apply Xe|apply Xf|apply Xg|apply Xh|apply Xi|exact Xj|apply Xk.ok|exact Xk.exc|apply Xl.ok|exact Xl.exc|apply Xm.ok|exact Xm.exc|apply Xn.ok|exact Xn.exc|apply Xo.ok|exact Xo.exc|apply Xp.ok|exact Xp.exc|apply Xq.ok|exact Xq.exc|apply Xr.ok|exact Xr.exc|apply Xs.ok|exact Xs.exc|apply Xu.ok|exact Xu.exc|apply Xv.ok|exact Xv.exc|apply Xw.ok|exact Xw.exc|apply Xx.ok|exact Xx.exc|apply Xy.ok|exact Xy.exc|apply Xz.ok|exact Xz.exc|apply XA.ok|exact XA.exc|apply XB.ok|exact XB.exc|apply XC.ok|exact XC.exc|apply XD.ok|exact XD.exc|apply XE.ok|exact XE.exc|apply XF.ok|exact XF.exc|apply XG.ok|exact XG.exc|apply XH.ok|exact XH.exc|apply XI.ok|exact XI.exc|exact XJ.t|exact XJ.f|exact XJ.exc|apply XK.t|exact XK.f|exact XK.exc|exact XM.t|apply XM.f|exact XM.exc|apply XN.t|exact XN.f|apply XO.andT|exact XO.andF|apply XO.orF|exact XO.orT|apply XQ.next|exact XQ.ret|exact XQ.exc|exact XQ.cont|exact XQ.brk|apply XR.t|apply XR.f|exact XR.exc|exact XS.ok|apply XS.exc|exact XT|apply XU|apply XV.next|exact XV.ret|exact XV.exc|exact XW|exact XX)|exact XY rfl|apply XZ rfl Qa|apply XZ rfl Qb|exact (rfl : listFree _ = true)|exact X0 rfl|apply X1 rfl|exact X2 rfl|exact X3 rfl|exact (rfl : (_ : Option _) = some _)|decide)
theorem told3_ok (K : Frag) (d e : D) {t : T} (h : F_change_of K [d, e] = .ok t) : F_law_told K [.int 3, d, e] = .ok t := by
  have a0 := eqI_f (a := 3) (b := 0) (by decide)
  have a1 := eqI_f (a := 3) (b := 1) (by decide)
  have a4 := eqI_f (a := 3) (b := 2) (by decide)
  unfold F_law_told f_law_told
  refine' run_of [some (.sh (.int 3)), some (.sh d), some (.sh e), none] rfl rfl ?_ fin_ret
  repeat' (first|(with_reducible first|assumption|exact Qa|exact Qb|exact Qc|apply Qd|exact Qe|apply Qf|exact Qg|apply Qh|exact Qi|apply Qj|exact Qk|apply Ql|apply Qm|exact Qn|exact Qo|apply Qp|exact Qq|exact Qr|apply Qs|exact Qt|exact Qu|exact Qv|exact Qw|exact Qx|exact Qy|exact Qz|apply QA|apply QB|apply QC|apply QD|apply QE|apply QF|apply QG|apply QH|apply QI|apply QJ|apply QK|apply QL|apply QM|apply QN|apply QO|apply QP|apply QQ|apply QR|apply QS|apply QT|apply QU|apply QV|apply QW|apply QX|apply QY|apply QZ|apply Q0|apply Q1|apply Q2|apply Q3|apply Q4|apply Q5|apply Q6|apply Q7|apply Q8|apply Q9|apply Xa|apply Xb|apply Xc|apply Xd|apply Xe|apply Xf|apply Xg|apply Xh|apply Xi|exact Xj|apply Xk.ok|exact Xk.exc|apply Xl.ok|exact Xl.exc|apply Xm.ok|exact Xm.exc|apply Xn.ok|exact Xn.exc|apply Xo.ok|exact Xo.exc|apply Xp.ok|exact Xp.exc|apply Xq.ok|exact Xq.exc|apply Xr.ok|exact Xr.exc|apply Xs.ok|exact Xs.exc|apply Xu.ok|exact Xu.exc|apply Xv.ok|exact Xv.exc|apply Xw.ok|exact Xw.exc|apply Xx.ok|exact Xx.exc|apply Xy.ok|exact Xy.exc|apply Xz.ok|exact Xz.exc|apply XA.ok|exact XA.exc|apply XB.ok|exact XB.exc|apply XC.ok|exact XC.exc|apply XD.ok|exact XD.exc|apply XE.ok|exact XE.exc|apply XF.ok|exact XF.exc|apply XG.ok|exact XG.exc|apply XH.ok|exact XH.exc|apply XI.ok|exact XI.exc|exact XJ.t|exact XJ.f|exact XJ.exc|apply XK.t|exact XK.f|exact XK.exc|exact XM.t|apply XM.f|exact XM.exc|apply XN.t|exact XN.f|apply XO.andT|exact XO.andF|apply XO.orF|exact XO.orT|apply XQ.next|exact XQ.ret|exact XQ.exc|exact XQ.cont|exact XQ.brk|apply XR.t|apply XR.f|exact XR.exc|exact XS.ok|apply XS.exc|exact XT|apply XU|apply XV.next|exact XV.ret|exact XV.exc|exact XW|exact XX)|exact XY rfl|apply XZ rfl Qa|apply XZ rfl Qb|exact (rfl : listFree _ = true)|exact X0 rfl|apply X1 rfl|exact X2 rfl|exact X3 rfl|exact (rfl : (_ : Option _) = some _)|decide)
theorem right_text (K : Frag) : F_law_right K [.list [.str "refused", .str "text"], .none] = .ok (.sh (.bool true)) := by
  have e1 : isI .none .none = some (.sh (.bool true)) := rfl
  have e2 := eq_told "text" so_text
  unfold F_law_right f_law_right
  refine' run_of [some (.sh (.list [.str "refused", .str "text"])), some (.sh .none)] rfl rfl ?_ fin_ret
  repeat' (first|(with_reducible first|assumption|exact Qa|exact Qb|exact Qc|apply Qd|exact Qe|apply Qf|exact Qg|apply Qh|exact Qi|apply Qj|exact Qk|apply Ql|apply Qm|exact Qn|exact Qo|apply Qp|exact Qq|exact Qr|apply Qs|exact Qt|exact Qu|exact Qv|exact Qw|exact Qx|exact Qy|exact Qz|apply QA|apply QB|apply QC|apply QD|apply QE|apply QF|apply QG|apply QH|apply QI|apply QJ|apply QK|apply QL|apply QM|apply QN|apply QO|apply QP|apply QQ|apply QR|apply QS|apply QT|apply QU|apply QV|apply QW|apply QX|apply QY|apply QZ|apply Q0|apply Q1|apply Q2|apply Q3|apply Q4|apply Q5|apply Q6|apply Q7|apply Q8|apply Q9|apply Xa|apply Xb|apply Xc|apply Xd|apply Xe|apply Xf|apply Xg|apply Xh|apply Xi|exact Xj|apply Xk.ok|exact Xk.exc|apply Xl.ok|exact Xl.exc|apply Xm.ok|exact Xm.exc|apply Xn.ok|exact Xn.exc|apply Xo.ok|exact Xo.exc|apply Xp.ok|exact Xp.exc|apply Xq.ok|exact Xq.exc|apply Xr.ok|exact Xr.exc|apply Xs.ok|exact Xs.exc|apply Xu.ok|exact Xu.exc|apply Xv.ok|exact Xv.exc|apply Xw.ok|exact Xw.exc|apply Xx.ok|exact Xx.exc|apply Xy.ok|exact Xy.exc|apply Xz.ok|exact Xz.exc|apply XA.ok|exact XA.exc|apply XB.ok|exact XB.exc|apply XC.ok|exact XC.exc|apply XD.ok|exact XD.exc|apply XE.ok|exact XE.exc|apply XF.ok|exact XF.exc|apply XG.ok|exact XG.exc|apply XH.ok|exact XH.exc|apply XI.ok|exact XI.exc|exact XJ.t|exact XJ.f|exact XJ.exc|apply XK.t|exact XK.f|exact XK.exc|exact XM.t|apply XM.f|exact XM.exc|apply XN.t|exact XN.f|apply XO.andT|exact XO.andF|apply XO.orF|exact XO.orT|apply XQ.next|exact XQ.ret|exact XQ.exc|exact XQ.cont|exact XQ.brk|apply XR.t|apply XR.f|exact XR.exc|exact XS.ok|apply XS.exc|exact XT|apply XU|apply XV.next|exact XV.ret|exact XV.exc|exact XW|exact XX)|exact XY rfl|apply XZ rfl Qa|apply XZ rfl Qb|exact (rfl : listFree _ = true)|exact X0 rfl|apply X1 rfl|exact X2 rfl|exact X3 rfl|exact (rfl : (_ : Option _) = some _)|decide)
theorem right_ints (K : Frag) (a : List Int) (hl : a.length ≤ 1000) : F_law_right K [.tup (iL a), .tup (iL a)] = .ok (.sh (.bool true)) := by
  have e0 : isI (.tup (iL a)) .none = some (.sh (.bool false)) := rfl
  have e1 : isInstI K [.tup (iL a), .glob (.type "tuple")] = some (.sh (.bool true)) := isTuple_eq K (.tup (iL a)) rfl
  have e2 : neI (.tup (iL a)) (.tup (iL a)) = some (.sh (.bool false)) := by rw [neI_tup, eqB_true.mpr rfl]; rfl
  have e3 : compN (bName 1) eAll (eBo .And (eVal (eOpN (isInstI K) (eConsB (eOp 1) (eConsB (eVal (eConst (.glob (.type "int")))) eNilB)))) (eOp1 notI (eVal (eOpN (isInstI K) (eConsB (eOp 1) (eConsB (eVal (eConst (.glob (.type "bool")))) eNilB)))))) [none, none] (iL a) [] = some ((iL a).map fun _ => .bool true) := by
    refine compN_map (iL a) (fun d hd => ?_) (by rw [iL_length]; omega)
    obtain ⟨i, hi, rfl⟩ := List.mem_map.mp hd
    have q1 : isInstI K [.int i, .glob (.type "int")] = some (.sh (.bool true)) := by kernel_rfl
    have q2 : isInstI K [.int i, .glob (.type "bool")] = some (.sh (.bool false)) := by kernel_rfl
    have q3 : notI (.bool false) = some (.sh (.bool true)) := rfl
    refine ⟨[none, some (.sh (.int i))], .sh (.bool true), [none, some (.sh (.int i))], rfl, ?_, rfl⟩
    repeat' (first|(with_reducible first|assumption|exact Qa|exact Qb|exact Qc|apply Qd|exact Qe|apply Qf|exact Qg|apply Qh|exact Qi|apply Qj|exact Qk|apply Ql|apply Qm|exact Qn|exact Qo|apply Qp|exact Qq|exact Qr|apply Qs|exact Qt|exact Qu|exact Qv|exact Qw|exact Qx|exact Qy|exact Qz|apply QA|apply QB|apply QC|apply QD|apply QE|apply QF|apply QG|apply QH|apply QI|apply QJ|apply QK|apply QL|apply QM|apply QN|apply QO|apply QP|apply QQ|apply QR|apply QS|apply QT|apply QU|apply QV|apply QW|apply QX|apply QY|apply QZ|apply Q0|apply Q1|apply Q2|apply Q3|apply Q4|apply Q5|apply Q6|apply Q7|apply Q8|apply Q9|apply Xa|apply Xb|apply Xc|apply Xd|apply Xe|apply Xf|apply Xg|apply Xh|apply Xi|exact Xj|apply Xk.ok|exact Xk.exc|apply Xl.ok|exact Xl.exc|apply Xm.ok|exact Xm.exc|apply Xn.ok|exact Xn.exc|apply Xo.ok|exact Xo.exc|apply Xp.ok|exact Xp.exc|apply Xq.ok|exact Xq.exc|apply Xr.ok|exact Xr.exc|apply Xs.ok|exact Xs.exc|apply Xu.ok|exact Xu.exc|apply Xv.ok|exact Xv.exc|apply Xw.ok|exact Xw.exc|apply Xx.ok|exact Xx.exc|apply Xy.ok|exact Xy.exc|apply Xz.ok|exact Xz.exc|apply XA.ok|exact XA.exc|apply XB.ok|exact XB.exc|apply XC.ok|exact XC.exc|apply XD.ok|exact XD.exc|apply XE.ok|exact XE.exc|apply XF.ok|exact XF.exc|apply XG.ok|exact XG.exc|apply XH.ok|exact XH.exc|apply XI.ok|exact XI.exc|exact XJ.t|exact XJ.f|exact XJ.exc|apply XK.t|exact XK.f|exact XK.exc|exact XM.t|apply XM.f|exact XM.exc|apply XN.t|exact XN.f|apply XO.andT|exact XO.andF|apply XO.orF|exact XO.orT|apply XQ.next|exact XQ.ret|exact XQ.exc|exact XQ.cont|exact XQ.brk|apply XR.t|apply XR.f|exact XR.exc|exact XS.ok|apply XS.exc|exact XT|apply XU|apply XV.next|exact XV.ret|exact XV.exc|exact XW|exact XX)|exact XY rfl|apply XZ rfl Qa|apply XZ rfl Qb|exact (rfl : listFree _ = true)|exact X0 rfl|apply X1 rfl|exact X2 rfl|exact X3 rfl|exact (rfl : (_ : Option _) = some _)|decide)
  have e4 : allI [.list ((iL a).map fun _ => .bool true)] = some (.sh (.bool true)) := by
    have := boolsOf_map' (fun _ => true) (iL a)
    rw [allI, this, Option.map_some, List.all_map]
    congr 3
    exact List.all_eq_true.mpr fun _ _ => rfl
  unfold F_law_right f_law_right
  refine' run_of [some (.sh (.tup (iL a))), some (.sh (.tup (iL a)))] rfl rfl ?_ fin_ret
  repeat' (first|(with_reducible first|assumption|exact Qa|exact Qb|exact Qc|apply Qd|exact Qe|apply Qf|exact Qg|apply Qh|exact Qi|apply Qj|exact Qk|apply Ql|apply Qm|exact Qn|exact Qo|apply Qp|exact Qq|exact Qr|apply Qs|exact Qt|exact Qu|exact Qv|exact Qw|exact Qx|exact Qy|exact Qz|apply QA|apply QB|apply QC|apply QD|apply QE|apply QF|apply QG|apply QH|apply QI|apply QJ|apply QK|apply QL|apply QM|apply QN|apply QO|apply QP|apply QQ|apply QR|apply QS|apply QT|apply QU|apply QV|apply QW|apply QX|apply QY|apply QZ|apply Q0|apply Q1|apply Q2|apply Q3|apply Q4|apply Q5|apply Q6|apply Q7|apply Q8|apply Q9|apply Xa|apply Xb|apply Xc|apply Xd|apply Xe|apply Xf|apply Xg|apply Xh|apply Xi|exact Xj|apply Xk.ok|exact Xk.exc|apply Xl.ok|exact Xl.exc|apply Xm.ok|exact Xm.exc|apply Xn.ok|exact Xn.exc|apply Xo.ok|exact Xo.exc|apply Xp.ok|exact Xp.exc|apply Xq.ok|exact Xq.exc|apply Xr.ok|exact Xr.exc|apply Xs.ok|exact Xs.exc|apply Xu.ok|exact Xu.exc|apply Xv.ok|exact Xv.exc|apply Xw.ok|exact Xw.exc|apply Xx.ok|exact Xx.exc|apply Xy.ok|exact Xy.exc|apply Xz.ok|exact Xz.exc|apply XA.ok|exact XA.exc|apply XB.ok|exact XB.exc|apply XC.ok|exact XC.exc|apply XD.ok|exact XD.exc|apply XE.ok|exact XE.exc|apply XF.ok|exact XF.exc|apply XG.ok|exact XG.exc|apply XH.ok|exact XH.exc|apply XI.ok|exact XI.exc|exact XJ.t|exact XJ.f|exact XJ.exc|apply XK.t|exact XK.f|exact XK.exc|exact XM.t|apply XM.f|exact XM.exc|apply XN.t|exact XN.f|apply XO.andT|exact XO.andF|apply XO.orF|exact XO.orT|apply XQ.next|exact XQ.ret|exact XQ.exc|exact XQ.cont|exact XQ.brk|apply XR.t|apply XR.f|exact XR.exc|exact XS.ok|apply XS.exc|exact XT|apply XU|apply XV.next|exact XV.ret|exact XV.exc|exact XW|exact XX)|exact XY rfl|apply XZ rfl Qa|apply XZ rfl Qb|exact (rfl : listFree _ = true)|exact X0 rfl|apply X1 rfl|exact X2 rfl|exact X3 rfl|exact (rfl : (_ : Option _) = some _)|decide)
noncomputable def sg13 : List Nat := sg ++ [45]
noncomputable def sg96 : List Nat := [32, 33, 34, 35, 36, 38, 39, 40, 41, 42, 43, 44, 45, 46, 47, 48, 49, 50, 51, 52, 53, 54, 55, 56, 57, 58, 59, 60, 61, 62, 63, 64, 65, 66, 67, 68, 69, 70, 71, 72, 73, 74, 75, 76, 77, 78, 79, 80, 81, 82, 83, 84, 85, 86, 87, 88, 89, 90, 91, 92, 93, 94, 95, 96, 97, 98, 99, 100, 101, 102, 103, 104, 105, 106, 107, 108, 109, 110, 111, 112, 113, 114, 115, 116, 117, 118, 119, 120, 121, 122, 123, 124, 125, 126, 10, 9]
theorem txt13 : ("1234567890et-" : Str) = txt sg13 := by decide +kernel
theorem txt96 : (" !\"#$&'()*+,-./0123456789:;<=>?@ABCDEFGHIJKLMNOPQRSTUVWXYZ[\\]^_`abcdefghijklmnopqrstuvwxyz{|}~\n\t" : Str) = txt sg96 := by decide +kernel
theorem all13 : ∀ c ∈ sg13, c < 128 := by decide
theorem all96 : ∀ c ∈ sg96, c < 128 := by decide +kernel
theorem F_law_sign_ok (K : Frag) (c : Int) : ∃ k, k < 128 ∧ F_law_sign K [.int c] = .ok (.sh (.str (sgn k))) := by
  obtain ⟨t, ht, ht4⟩ := fmod_nat c (n := 4) (by decide)
  have e1 : modI (.int c) (.int 4) = some (.sh (.int t)) := by rw [Q5 (by decide)]; rw [show c.fmod 4 = t from ht]
  obtain ⟨a, ha, ha13⟩ := fmod_nat (c.fdiv 4) (n := 13) (by decide)
  have e2 : modI (.int (c.fdiv 4)) (.int 13) = some (.sh (.int a)) := by rw [Q5 (by decide)]; rw [show (c.fdiv 4).fmod 13 = a from ha]
  obtain ⟨b, hb, hb96⟩ := fmod_nat (c.fdiv 4) (n := 96) (by decide)
  have e3 : modI (.int (c.fdiv 4)) (.int 96) = some (.sh (.int b)) := by rw [Q5 (by decide)]; rw [show (c.fdiv 4).fmod 96 = b from hb]
  by_cases h : 0 < t
  · have hk : a < sg13.length := ha13
    have e4 := gtI_t (a := (t : Int)) (b := 0) (by omega)
    have e5 := strIdx_txt (cs := sg13) (p := a) (List.getElem?_eq_getElem hk) (by decide)
    rw [← txt13] at e5
    refine ⟨sg13[a], all13 _ (List.getElem_mem _), ?_⟩
    unfold F_law_sign f_law_sign
    refine' run_of [some (.sh (.int c)), none] rfl rfl ?_ fin_ret
    repeat' (first|(with_reducible first|assumption|exact Qa|exact Qb|exact Qc|apply Qd|exact Qe|apply Qf|exact Qg|apply Qh|exact Qi|apply Qj|exact Qk|apply Ql|apply Qm|exact Qn|exact Qo|apply Qp|exact Qq|exact Qr|apply Qs|exact Qt|exact Qu|exact Qv|exact Qw|exact Qx|exact Qy|exact Qz|apply QA|apply QB|apply QC|apply QD|apply QE|apply QF|apply QG|apply QH|apply QI|apply QJ|apply QK|apply QL|apply QM|apply QN|apply QO|apply QP|apply QQ|apply QR|apply QS|apply QT|apply QU|apply QV|apply QW|apply QX|apply QY|apply QZ|apply Q0|apply Q1|apply Q2|apply Q3|apply Q4|apply Q5|apply Q6|apply Q7|apply Q8|apply Q9|apply Xa|apply Xb|apply Xc|apply Xd|apply Xe|apply Xf|apply Xg|apply Xh|apply Xi|exact Xj|apply Xk.ok|exact Xk.exc|apply Xl.ok|exact Xl.exc|apply Xm.ok|exact Xm.exc|apply Xn.ok|exact Xn.exc|apply Xo.ok|exact Xo.exc|apply Xp.ok|exact Xp.exc|apply Xq.ok|exact Xq.exc|apply Xr.ok|exact Xr.exc|apply Xs.ok|exact Xs.exc|apply Xu.ok|exact Xu.exc|apply Xv.ok|exact Xv.exc|apply Xw.ok|exact Xw.exc|apply Xx.ok|exact Xx.exc|apply Xy.ok|exact Xy.exc|apply Xz.ok|exact Xz.exc|apply XA.ok|exact XA.exc|apply XB.ok|exact XB.exc|apply XC.ok|exact XC.exc|apply XD.ok|exact XD.exc|apply XE.ok|exact XE.exc|apply XF.ok|exact XF.exc|apply XG.ok|exact XG.exc|apply XH.ok|exact XH.exc|apply XI.ok|exact XI.exc|exact XJ.t|exact XJ.f|exact XJ.exc|apply XK.t|exact XK.f|exact XK.exc|exact XM.t|apply XM.f|exact XM.exc|apply XN.t|exact XN.f|apply XO.andT|exact XO.andF|apply XO.orF|exact XO.orT|apply XQ.next|exact XQ.ret|exact XQ.exc|exact XQ.cont|exact XQ.brk|apply XR.t|apply XR.f|exact XR.exc|exact XS.ok|apply XS.exc|exact XT|apply XU|apply XV.next|exact XV.ret|exact XV.exc|exact XW|exact XX)|exact XY rfl|apply XZ rfl Qa|apply XZ rfl Qb|exact (rfl : listFree _ = true)|exact X0 rfl|apply X1 rfl|exact X2 rfl|exact X3 rfl|exact (rfl : (_ : Option _) = some _)|decide)
  · have hk : b < sg96.length := hb96
    have e4 := gtI_f (a := (t : Int)) (b := 0) (by omega)
    have e5 := strIdx_txt (cs := sg96) (p := b) (List.getElem?_eq_getElem hk) (by decide)
    rw [← txt96] at e5
    refine ⟨sg96[b], all96 _ (List.getElem_mem _), ?_⟩
    unfold F_law_sign f_law_sign
    refine' run_of [some (.sh (.int c)), none] rfl rfl ?_ fin_ret
    repeat' (first|(with_reducible first|assumption|exact Qa|exact Qb|exact Qc|apply Qd|exact Qe|apply Qf|exact Qg|apply Qh|exact Qi|apply Qj|exact Qk|apply Ql|apply Qm|exact Qn|exact Qo|apply Qp|exact Qq|exact Qr|apply Qs|exact Qt|exact Qu|exact Qv|exact Qw|exact Qx|exact Qy|exact Qz|apply QA|apply QB|apply QC|apply QD|apply QE|apply QF|apply QG|apply QH|apply QI|apply QJ|apply QK|apply QL|apply QM|apply QN|apply QO|apply QP|apply QQ|apply QR|apply QS|apply QT|apply QU|apply QV|apply QW|apply QX|apply QY|apply QZ|apply Q0|apply Q1|apply Q2|apply Q3|apply Q4|apply Q5|apply Q6|apply Q7|apply Q8|apply Q9|apply Xa|apply Xb|apply Xc|apply Xd|apply Xe|apply Xf|apply Xg|apply Xh|apply Xi|exact Xj|apply Xk.ok|exact Xk.exc|apply Xl.ok|exact Xl.exc|apply Xm.ok|exact Xm.exc|apply Xn.ok|exact Xn.exc|apply Xo.ok|exact Xo.exc|apply Xp.ok|exact Xp.exc|apply Xq.ok|exact Xq.exc|apply Xr.ok|exact Xr.exc|apply Xs.ok|exact Xs.exc|apply Xu.ok|exact Xu.exc|apply Xv.ok|exact Xv.exc|apply Xw.ok|exact Xw.exc|apply Xx.ok|exact Xx.exc|apply Xy.ok|exact Xy.exc|apply Xz.ok|exact Xz.exc|apply XA.ok|exact XA.exc|apply XB.ok|exact XB.exc|apply XC.ok|exact XC.exc|apply XD.ok|exact XD.exc|apply XE.ok|exact XE.exc|apply XF.ok|exact XF.exc|apply XG.ok|exact XG.exc|apply XH.ok|exact XH.exc|apply XI.ok|exact XI.exc|exact XJ.t|exact XJ.f|exact XJ.exc|apply XK.t|exact XK.f|exact XK.exc|exact XM.t|apply XM.f|exact XM.exc|apply XN.t|exact XN.f|apply XO.andT|exact XO.andF|apply XO.orF|exact XO.orT|apply XQ.next|exact XQ.ret|exact XQ.exc|exact XQ.cont|exact XQ.brk|apply XR.t|apply XR.f|exact XR.exc|exact XS.ok|apply XS.exc|exact XT|apply XU|apply XV.next|exact XV.ret|exact XV.exc|exact XW|exact XX)|exact XY rfl|apply XZ rfl Qa|apply XZ rfl Qb|exact (rfl : listFree _ = true)|exact X0 rfl|apply X1 rfl|exact X2 rfl|exact X3 rfl|exact (rfl : (_ : Option _) = some _)|decide)
theorem F_law_bent_ok (K : Frag) {cs : List Nat} (c : Int) (hc : ∀ x ∈ cs, x < 128) (hl : cs.length ≤ 100) : ∃ cs', F_law_bent K [.str (txt cs), .int c] = .ok (.sh (.str (txt cs'))) ∧ (∀ x ∈ cs', x < 128) ∧ cs'.length ≤ 101 := by
  have e1 := lenS_txt (a := cs) (by omega)
  obtain ⟨a, ha, han⟩ := fmod_nat (c.fdiv 3) (n := cs.length + 1) (by omega)
  have e2 : modI (.int (c.fdiv 3)) (.int ((cs.length : Int) + 1)) = some (.sh (.int a)) := by rw [Q5 (by omega), show ((cs.length : Int) + 1) = ((cs.length + 1 : Nat) : Int) by omega, ha]
  obtain ⟨k, hk, e3⟩ := F_law_sign_ok K (c.fdiv 60)
  obtain ⟨t, ht, ht3⟩ := fmod_nat c (n := 3) (by decide)
  have e4 : modI (.int c) (.int 3) = some (.sh (.int t)) := by rw [Q5 (by decide)]; rw [show c.fmod 3 = t from ht]
  have s1 := sliceS_to (cs := cs) (k := a) (by omega)
  have s2 := sliceS_from (cs := cs) (k := a) (by omega)
  have s3 := sliceS_from (cs := cs) (k := a + 1) (by omega)
  rw [show ((a + 1 : Nat) : Int) = (a : Int) + 1 by omega] at s3
  have l1 : (cs.take a).length ≤ 100 := by rw [List.length_take]; omega
  have l2 : (cs.drop a).length ≤ 100 := by rw [List.length_drop]; omega
  have l3 : (cs.drop (a + 1)).length ≤ 100 := by rw [List.length_drop]; omega
  have p1 := addS_txt (a := cs.take a) (b := [k]) (by simp; omega)
  rw [← sgn_txt] at p1
  have p2 := addS_txt (a := cs.take a ++ [k]) (b := cs.drop a) (by simp; omega)
  have p3 := addS_txt (a := cs.take a ++ [k]) (b := cs.drop (a + 1)) (by simp; omega)
  have p4 := addS_txt (a := cs.take a) (b := cs.drop (a + 1)) (by omega)
  have m1 : ∀ x ∈ cs.take a, x < 128 := fun x hx => hc x (List.mem_of_mem_take hx)
  have m2 : ∀ j, ∀ x ∈ cs.drop j, x < 128 := fun j x hx => hc x (List.mem_of_mem_drop hx)
  by_cases h0 : t = 0
  · subst h0
    have e5 : eqI (.int ((0 : Nat) : Int)) (.int 0) = some (.sh (.bool true)) := eqI_t 0
    refine ⟨cs.take a ++ [k] ++ cs.drop a, ?_, fun x hx => ?_, ?_⟩
    · unfold F_law_bent f_law_bent
      refine' run_of [some (.sh (.str (txt cs))), some (.sh (.int c)), none, none] rfl rfl ?_ fin_ret
      repeat' (first|(with_reducible first|assumption|exact Qa|exact Qb|exact Qc|apply Qd|exact Qe|apply Qf|exact Qg|apply Qh|exact Qi|apply Qj|exact Qk|apply Ql|apply Qm|exact Qn|exact Qo|apply Qp|exact Qq|exact Qr|apply Qs|exact Qt|exact Qu|exact Qv|exact Qw|exact Qx|exact Qy|exact Qz|apply QA|apply QB|apply QC|apply QD|apply QE|apply QF|apply QG|apply QH|apply QI|apply QJ|apply QK|apply QL|apply QM|apply QN|apply QO|apply QP|apply QQ|apply QR|apply QS|apply QT|apply QU|apply QV|apply QW|apply QX|apply QY|apply QZ|apply Q0|apply Q1|apply Q2|apply Q3|apply Q4|apply Q5|apply Q6|apply Q7|apply Q8|apply Q9|apply Xa|apply Xb|apply Xc|apply Xd|apply Xe|apply Xf|apply Xg|apply Xh|apply Xi|exact Xj|apply Xk.ok|exact Xk.exc|apply Xl.ok|exact Xl.exc|apply Xm.ok|exact Xm.exc|apply Xn.ok|exact Xn.exc|apply Xo.ok|exact Xo.exc|apply Xp.ok|exact Xp.exc|apply Xq.ok|exact Xq.exc|apply Xr.ok|exact Xr.exc|apply Xs.ok|exact Xs.exc|apply Xu.ok|exact Xu.exc|apply Xv.ok|exact Xv.exc|apply Xw.ok|exact Xw.exc|apply Xx.ok|exact Xx.exc|apply Xy.ok|exact Xy.exc|apply Xz.ok|exact Xz.exc|apply XA.ok|exact XA.exc|apply XB.ok|exact XB.exc|apply XC.ok|exact XC.exc|apply XD.ok|exact XD.exc|apply XE.ok|exact XE.exc|apply XF.ok|exact XF.exc|apply XG.ok|exact XG.exc|apply XH.ok|exact XH.exc|apply XI.ok|exact XI.exc|exact XJ.t|exact XJ.f|exact XJ.exc|apply XK.t|exact XK.f|exact XK.exc|exact XM.t|apply XM.f|exact XM.exc|apply XN.t|exact XN.f|apply XO.andT|exact XO.andF|apply XO.orF|exact XO.orT|apply XQ.next|exact XQ.ret|exact XQ.exc|exact XQ.cont|exact XQ.brk|apply XR.t|apply XR.f|exact XR.exc|exact XS.ok|apply XS.exc|exact XT|apply XU|apply XV.next|exact XV.ret|exact XV.exc|exact XW|exact XX)|exact XY rfl|apply XZ rfl Qa|apply XZ rfl Qb|exact (rfl : listFree _ = true)|exact X0 rfl|apply X1 rfl|exact X2 rfl|exact X3 rfl|exact (rfl : (_ : Option _) = some _)|decide)
    · rw [List.mem_append, List.mem_append, List.mem_singleton] at hx
      rcases hx with (hx | rfl) | hx
      · exact m1 x hx
      · exact hk
      · exact m2 a x hx
    · rw [List.length_append, List.length_append, List.length_take, List.length_drop]; simp; omega
  · have e5 := eqI_f (a := (t : Int)) (b := 0) (by omega)
    by_cases h1 : t = 1
    · subst h1
      have e6 : eqI (.int ((1 : Nat) : Int)) (.int 1) = some (.sh (.bool true)) := eqI_t 1
      refine ⟨cs.take a ++ [k] ++ cs.drop (a + 1), ?_, fun x hx => ?_, ?_⟩
      · unfold F_law_bent f_law_bent
        refine' run_of [some (.sh (.str (txt cs))), some (.sh (.int c)), none, none] rfl rfl ?_ fin_ret
        repeat' (first|(with_reducible first|assumption|exact Qa|exact Qb|exact Qc|apply Qd|exact Qe|apply Qf|exact Qg|apply Qh|exact Qi|apply Qj|exact Qk|apply Ql|apply Qm|exact Qn|exact Qo|apply Qp|exact Qq|exact Qr|apply Qs|exact Qt|exact Qu|exact Qv|exact Qw|exact Qx|exact Qy|exact Qz|apply QA|apply QB|apply QC|apply QD|apply QE|apply QF|apply QG|apply QH|apply QI|apply QJ|apply QK|apply QL|apply QM|apply QN|apply QO|apply QP|apply QQ|apply QR|apply QS|apply QT|apply QU|apply QV|apply QW|apply QX|apply QY|apply QZ|apply Q0|apply Q1|apply Q2|apply Q3|apply Q4|apply Q5|apply Q6|apply Q7|apply Q8|apply Q9|apply Xa|apply Xb|apply Xc|apply Xd|apply Xe|apply Xf|apply Xg|apply Xh|apply Xi|exact Xj|apply Xk.ok|exact Xk.exc|apply Xl.ok|exact Xl.exc|apply Xm.ok|exact Xm.exc|apply Xn.ok|exact Xn.exc|apply Xo.ok|exact Xo.exc|apply Xp.ok|exact Xp.exc|apply Xq.ok|exact Xq.exc|apply Xr.ok|exact Xr.exc|apply Xs.ok|exact Xs.exc|apply Xu.ok|exact Xu.exc|apply Xv.ok|exact Xv.exc|apply Xw.ok|exact Xw.exc|apply Xx.ok|exact Xx.exc|apply Xy.ok|exact Xy.exc|apply Xz.ok|exact Xz.exc|apply XA.ok|exact XA.exc|apply XB.ok|exact XB.exc|apply XC.ok|exact XC.exc|apply XD.ok|exact XD.exc|apply XE.ok|exact XE.exc|apply XF.ok|exact XF.exc|apply XG.ok|exact XG.exc|apply XH.ok|exact XH.exc|apply XI.ok|exact XI.exc|exact XJ.t|exact XJ.f|exact XJ.exc|apply XK.t|exact XK.f|exact XK.exc|exact XM.t|apply XM.f|exact XM.exc|apply XN.t|exact XN.f|apply XO.andT|exact XO.andF|apply XO.orF|exact XO.orT|apply XQ.next|exact XQ.ret|exact XQ.exc|exact XQ.cont|exact XQ.brk|apply XR.t|apply XR.f|exact XR.exc|exact XS.ok|apply XS.exc|exact XT|apply XU|apply XV.next|exact XV.ret|exact XV.exc|exact XW|exact XX)|exact XY rfl|apply XZ rfl Qa|apply XZ rfl Qb|exact (rfl : listFree _ = true)|exact X0 rfl|apply X1 rfl|exact X2 rfl|exact X3 rfl|exact (rfl : (_ : Option _) = some _)|decide)
      · rw [List.mem_append, List.mem_append, List.mem_singleton] at hx
        rcases hx with (hx | rfl) | hx
        · exact m1 x hx
        · exact hk
        · exact m2 (a + 1) x hx
      · rw [List.length_append, List.length_append, List.length_take, List.length_drop]; simp; omega
    · have e6 := eqI_f (a := (t : Int)) (b := 1) (by omega)
      refine ⟨cs.take a ++ cs.drop (a + 1), ?_, fun x hx => ?_, ?_⟩
      · unfold F_law_bent f_law_bent
        refine' run_of [some (.sh (.str (txt cs))), some (.sh (.int c)), none, none] rfl rfl ?_ fin_ret
        repeat' (first|(with_reducible first|assumption|exact Qa|exact Qb|exact Qc|apply Qd|exact Qe|apply Qf|exact Qg|apply Qh|exact Qi|apply Qj|exact Qk|apply Ql|apply Qm|exact Qn|exact Qo|apply Qp|exact Qq|exact Qr|apply Qs|exact Qt|exact Qu|exact Qv|exact Qw|exact Qx|exact Qy|exact Qz|apply QA|apply QB|apply QC|apply QD|apply QE|apply QF|apply QG|apply QH|apply QI|apply QJ|apply QK|apply QL|apply QM|apply QN|apply QO|apply QP|apply QQ|apply QR|apply QS|apply QT|apply QU|apply QV|apply QW|apply QX|apply QY|apply QZ|apply Q0|apply Q1|apply Q2|apply Q3|apply Q4|apply Q5|apply Q6|apply Q7|apply Q8|apply Q9|apply Xa|apply Xb|apply Xc|apply Xd|apply Xe|apply Xf|apply Xg|apply Xh|apply Xi|exact Xj|apply Xk.ok|exact Xk.exc|apply Xl.ok|exact Xl.exc|apply Xm.ok|exact Xm.exc|apply Xn.ok|exact Xn.exc|apply Xo.ok|exact Xo.exc|apply Xp.ok|exact Xp.exc|apply Xq.ok|exact Xq.exc|apply Xr.ok|exact Xr.exc|apply Xs.ok|exact Xs.exc|apply Xu.ok|exact Xu.exc|apply Xv.ok|exact Xv.exc|apply Xw.ok|exact Xw.exc|apply Xx.ok|exact Xx.exc|apply Xy.ok|exact Xy.exc|apply Xz.ok|exact Xz.exc|apply XA.ok|exact XA.exc|apply XB.ok|exact XB.exc|apply XC.ok|exact XC.exc|apply XD.ok|exact XD.exc|apply XE.ok|exact XE.exc|apply XF.ok|exact XF.exc|apply XG.ok|exact XG.exc|apply XH.ok|exact XH.exc|apply XI.ok|exact XI.exc|exact XJ.t|exact XJ.f|exact XJ.exc|apply XK.t|exact XK.f|exact XK.exc|exact XM.t|apply XM.f|exact XM.exc|apply XN.t|exact XN.f|apply XO.andT|exact XO.andF|apply XO.orF|exact XO.orT|apply XQ.next|exact XQ.ret|exact XQ.exc|exact XQ.cont|exact XQ.brk|apply XR.t|apply XR.f|exact XR.exc|exact XS.ok|apply XS.exc|exact XT|apply XU|apply XV.next|exact XV.ret|exact XV.exc|exact XW|exact XX)|exact XY rfl|apply XZ rfl Qa|apply XZ rfl Qb|exact (rfl : listFree _ = true)|exact X0 rfl|apply X1 rfl|exact X2 rfl|exact X3 rfl|exact (rfl : (_ : Option _) = some _)|decide)
      · rw [List.mem_append] at hx
        rcases hx with hx | hx
        · exact m1 x hx
        · exact m2 (a + 1) x hx
      · rw [List.length_append, List.length_take, List.length_drop]; omega
end Mine
end

section
set_option Elab.async false
set_option maxRecDepth 100000
set_option maxHeartbeats 4000000
set_option linter.unusedSimpArgs false
set_option linter.unusedVariables false
namespace Mine
open PySem PySem.W
theorem text_turn (K : Frag) (k : KF K) {s : D} {n : Nat} {ta tb : List Nat} (h3 : 3 ≤ n) (h12 : n ≤ 12) (ha : ∀ c ∈ ta, c < 128) (hb : ∀ c ∈ tb, c < 128) (la : ta.length ≤ 100) (lb : tb.length ≤ 100) {j : Nat} {v : Int} (hv : F_law_cell K [s, .int ((3 : Int) + j)] = .ok (.sh (.int v))) {r2 r3 r6 r7 r8 r9 r10 r11 r12 : Option T} : ∃ w6 w7 w8, (sSeq (sAssign 6 (eCall (F_law_mix K) (eConsB (eVal (eCall (F_law_cell K) (eConsB (eOp 0) (eConsB (eVal (eOp2 addS (eVal (eConst (.int 3))) (eOp 5))) eNilB)))) (eConsB (eVal (eConst (.int 5))) eNilB)))) (sSeq (sAssign 7 (eCall (F_law_bent K) (eConsB (eVal (eOp2 idxI (eOp 4) (eVal (eConst (.int 0))))) (eConsB (eOp 6) eNilB)))) (sSeq (sAssign 8 (eCall (F_law_bent K) (eConsB (eVal (eOp2 idxI (eOp 4) (eVal (eConst (.int 1))))) (eConsB (eVal (eOp2 divI (eOp 6) (eVal (eConst (.int 7))))) eNilB)))) (sSeq (sIf (eTest2 eqI (eVal (eOp2 modI (eVal (eOp2 divI (eOp 6) (eVal (eConst (.int 11))))) (eVal (eConst (.int 8))))) (eVal (eConst (.int 1)))) (sSeq (sAssign 7 (eOp2 idxI (eVal (eLst (eCons (eConst .none) (eCons (eConst (.int 5)) (eCons (eOpN listS (eConsB (eVal (eOp2 idxI (eOp 4) (eVal (eConst (.int 0))))) eNilB)) (eCons (eConst (.bool true)) eNil)))))) (eVal (eOp2 modI (eVal (eOp2 divI (eOp 6) (eVal (eConst (.int 88))))) (eVal (eConst (.int 4))))))) (sSeq (sAssign 8 (eVar 7)) sNil)) sNil) (sSeq (sIf (eNot (eTruth (eVal (eCall (F_law_right K) (eConsB (eVal (eCall (F_law_told K) (eConsB (eVal (eConst (.int 1))) (eConsB (eOp 7) (eConsB (eVal (eConst .none)) eNilB))))) (eConsB (eVal (eCall (F_law_row_due K) (eConsB (eOp 7) eNilB))) eNilB)))))) (sSeq (sRet (eConst (.bool false))) sNil) sNil) (sSeq (sIf (eNot (eTruth (eVal (eCall (F_law_right K) (eConsB (eVal (eCall (F_law_told K) (eConsB (eVal (eConst (.int 3))) (eConsB (eOp 1) (eConsB (eOp 8) eNilB))))) (eConsB (eVal (eCall (F_law_change_due K) (eConsB (eOp 1) (eConsB (eOp 8) eNilB)))) eNilB)))))) (sSeq (sRet (eConst (.bool false))) sNil) sNil) sNil)))))) [some (.sh s), some (.sh (.int n)), r2, r3, some (.ow true (.list [.str (txt ta), .str (txt tb)])), some (.sh (.int j)), r6, r7, r8, r9, r10, r11, r12] = .ok .next [some (.sh s), some (.sh (.int n)), r2, r3, some (.ow true (.list [.str (txt ta), .str (txt tb)])), some (.sh (.int j)), w6, w7, w8, r9, r10, r11, r12] := by
  have e0 : addD (.int 3) (.int j) = some (.sh (.int ((3 : Int) + j))) := rfl
  have e1 := F_law_mix_ok K v 5 (small_of (by decide))
  generalize mix v 5 = m at e1
  obtain ⟨xa, e2, ha', la'⟩ := F_law_bent_ok K m ha la
  obtain ⟨xb, e3, hb', lb'⟩ := F_law_bent_ok K (m.fdiv 7) hb lb
  obtain ⟨t, ht, ht8⟩ := fmod_nat (m.fdiv 11) (n := 8) (by decide)
  have e4 : modI (.int (m.fdiv 11)) (.int 8) = some (.sh (.int t)) := by rw [Q5 (by decide)]; rw [show (m.fdiv 11).fmod 8 = t from ht]
  have wt : wordOf 6 = "text" := rfl
  have rt := right_text K
  by_cases h1 : t = 1
  · subst h1
    have e5 : eqI (.int ((1 : Nat) : Int)) (.int 1) = some (.sh (.bool true)) := eqI_t 1
    obtain ⟨q, hq, hq4⟩ := fmod_nat (m.fdiv 88) (n := 4) (by decide)
    have e6 : modI (.int (m.fdiv 88)) (.int 4) = some (.sh (.int q)) := by rw [Q5 (by decide)]; rw [show (m.fdiv 88).fmod 4 = q from hq]
    have e7 : listS [.str (txt ta)] = some (.ow true (.list ((ta.map sgn).map .str))) := by rw [listS, if_pos (by rw [txt_len]; omega), signsD_txt]
    have : ∃ d, idxI (.list [.none, .int 5, .list ((ta.map sgn).map .str), .bool true]) (.int q) = some (.sh d) ∧ calm d = true ∧ ∀ x, d ≠ .str x := by
      have : q = 0 ∨ q = 1 ∨ q = 2 ∨ q = 3 := by omega
      rcases this with rfl | rfl | rfl | rfl
      · exact ⟨_, idxI_list (by decide) (by decide) rfl, rfl, fun _ h => by cases h⟩
      · exact ⟨_, idxI_list (by decide) (by decide) rfl, rfl, fun _ h => by cases h⟩
      · exact ⟨_, idxI_list (by decide) (by decide) rfl, rfl, fun _ h => by cases h⟩
      · exact ⟨_, idxI_list (by decide) (by decide) rfl, rfl, fun _ h => by cases h⟩
    obtain ⟨d, e8, hc, hd⟩ := this
    have e9 := told1_bad K (i := 6) (by decide) k.text d .none (F_row_of_other K d hc hd)
    have e10 := F_row_due_other K d hc hd
    have e11 : F_change_of K [.int n, d] = .exc 109 := by
      have q1 := F_need_bells_ok K n (by omega) (by omega)
      have q2 := F_places_of_other K d hc hd
      have q3 : eqI d (.str "-") = some (.sh (.bool false)) := by
        have : q = 0 ∨ q = 1 ∨ q = 2 ∨ q = 3 := by omega
        rcases this with rfl | rfl | rfl | rfl
        · have h9 : idxI (.list [.none, .int 5, .list ((ta.map sgn).map .str), .bool true]) (.int ((0 : Nat) : Int)) = some (.sh .none) := idxI_list (by decide) (by decide) rfl
          rw [h9] at e8; cases e8
          unfold eqI eqD; simp [toPy, SeqAt.shaped, PyData.canLay0, PyData.depth, PyData.eqv, show PyData.strOk "-" = true by decide +kernel]
        · have h9 : idxI (.list [.none, .int 5, .list ((ta.map sgn).map .str), .bool true]) (.int ((1 : Nat) : Int)) = some (.sh (.int 5)) := idxI_list (by decide) (by decide) rfl
          rw [h9] at e8; cases e8
          unfold eqI eqD; simp [toPy, SeqAt.shaped, PyData.canLay0, PyData.depth, PyData.eqv, show PyData.strOk "-" = true by decide +kernel]
        · have h9 : idxI (.list [.none, .int 5, .list ((ta.map sgn).map .str), .bool true]) (.int ((2 : Nat) : Int)) = some (.sh (.list ((ta.map sgn).map .str))) := idxI_list (by decide) (by decide) rfl
          rw [h9] at e8; cases e8
          have p1 : toPy (.list ((ta.map sgn).map .str)) = some (.list ((ta.map sgn).map .str)) := by rw [toPy, toPys_sgn]; rfl
          have d1 := depth_sgn ta
          have s1 : SeqAt.shaped (.list ((ta.map sgn).map .str)) = true := by
            unfold SeqAt.shaped
            rw [PyData.canLay0, canLay_sgn ha, PyData.depth]
            simp only [Bool.true_and, decide_eq_true_eq]; omega
          have s2 : SeqAt.shaped (.str "-") = true := by unfold SeqAt.shaped; simp [PyData.canLay0, PyData.depth, show PyData.strOk "-" = true by decide +kernel]
          unfold eqI eqD
          rw [p1]
          simp only [toPy, s1, s2, Bool.and_self, if_true, PyData.eqv]; rfl
        · have h9 : idxI (.list [.none, .int 5, .list ((ta.map sgn).map .str), .bool true]) (.int ((3 : Nat) : Int)) = some (.sh (.bool true)) := idxI_list (by decide) (by decide) rfl
          rw [h9] at e8; cases e8
          unfold eqI eqD; simp [toPy, SeqAt.shaped, PyData.canLay0, PyData.depth, PyData.eqv, show PyData.strOk "-" = true by decide +kernel]
      unfold F_change_of f_change_of
      refine' run_of [some (.sh (.int n)), some (.sh d), none, none] rfl rfl ?_ fin_exc
      repeat' (first|(with_reducible first|assumption|exact Qa|exact Qb|exact Qc|apply Qd|exact Qe|apply Qf|exact Qg|apply Qh|exact Qi|apply Qj|exact Qk|apply Ql|apply Qm|exact Qn|exact Qo|apply Qp|exact Qq|exact Qr|apply Qs|exact Qt|exact Qu|exact Qv|exact Qw|exact Qx|exact Qy|exact Qz|apply QA|apply QB|apply QC|apply QD|apply QE|apply QF|apply QG|apply QH|apply QI|apply QJ|apply QK|apply QL|apply QM|apply QN|apply QO|apply QP|apply QQ|apply QR|apply QS|apply QT|apply QU|apply QV|apply QW|apply QX|apply QY|apply QZ|apply Q0|apply Q1|apply Q2|apply Q3|apply Q4|apply Q5|apply Q6|apply Q7|apply Q8|apply Q9|apply Xa|apply Xb|apply Xc|apply Xd|apply Xe|apply Xf|apply Xg|apply Xh|apply Xi|exact Xj|apply Xk.ok|exact Xk.exc|apply Xl.ok|exact Xl.exc|apply Xm.ok|exact Xm.exc|apply Xn.ok|exact Xn.exc|apply Xo.ok|exact Xo.exc|apply Xp.ok|exact Xp.exc|apply Xq.ok|exact Xq.exc|apply Xr.ok|exact Xr.exc|apply Xs.ok|exact Xs.exc|apply Xu.ok|exact Xu.exc|apply Xv.ok|exact Xv.exc|apply Xw.ok|exact Xw.exc|apply Xx.ok|exact Xx.exc|apply Xy.ok|exact Xy.exc|apply Xz.ok|exact Xz.exc|apply XA.ok|exact XA.exc|apply XB.ok|exact XB.exc|apply XC.ok|exact XC.exc|apply XD.ok|exact XD.exc|apply XE.ok|exact XE.exc|apply XF.ok|exact XF.exc|apply XG.ok|exact XG.exc|apply XH.ok|exact XH.exc|apply XI.ok|exact XI.exc|exact XJ.t|exact XJ.f|exact XJ.exc|apply XK.t|exact XK.f|exact XK.exc|exact XM.t|apply XM.f|exact XM.exc|apply XN.t|exact XN.f|apply XO.andT|exact XO.andF|apply XO.orF|exact XO.orT|apply XQ.next|exact XQ.ret|exact XQ.exc|exact XQ.cont|exact XQ.brk|apply XR.t|apply XR.f|exact XR.exc|exact XS.ok|apply XS.exc|exact XT|apply XU|apply XV.next|exact XV.ret|exact XV.exc|exact XW|exact XX)|exact XY rfl|apply XZ rfl Qa|apply XZ rfl Qb|exact (rfl : listFree _ = true)|exact X0 rfl|apply X1 rfl|exact X2 rfl|exact X3 rfl|exact (rfl : (_ : Option _) = some _)|decide)
    have e12 := told3_bad K (i := 6) (by decide) k.text (.int n) d e11
    have e13 := F_change_due_other K (.int n) d hc hd
    rw [wt] at e9 e12
    refine ⟨some (.sh (.int m)), some (.sh d), some (.sh d), ?_⟩
    repeat' (first|(with_reducible first|assumption|exact Qa|exact Qb|exact Qc|apply Qd|exact Qe|apply Qf|exact Qg|apply Qh|exact Qi|apply Qj|exact Qk|apply Ql|apply Qm|exact Qn|exact Qo|apply Qp|exact Qq|exact Qr|apply Qs|exact Qt|exact Qu|exact Qv|exact Qw|exact Qx|exact Qy|exact Qz|apply QA|apply QB|apply QC|apply QD|apply QE|apply QF|apply QG|apply QH|apply QI|apply QJ|apply QK|apply QL|apply QM|apply QN|apply QO|apply QP|apply QQ|apply QR|apply QS|apply QT|apply QU|apply QV|apply QW|apply QX|apply QY|apply QZ|apply Q0|apply Q1|apply Q2|apply Q3|apply Q4|apply Q5|apply Q6|apply Q7|apply Q8|apply Q9|apply Xa|apply Xb|apply Xc|apply Xd|apply Xe|apply Xf|apply Xg|apply Xh|apply Xi|exact Xj|apply Xk.ok|exact Xk.exc|apply Xl.ok|exact Xl.exc|apply Xm.ok|exact Xm.exc|apply Xn.ok|exact Xn.exc|apply Xo.ok|exact Xo.exc|apply Xp.ok|exact Xp.exc|apply Xq.ok|exact Xq.exc|apply Xr.ok|exact Xr.exc|apply Xs.ok|exact Xs.exc|apply Xu.ok|exact Xu.exc|apply Xv.ok|exact Xv.exc|apply Xw.ok|exact Xw.exc|apply Xx.ok|exact Xx.exc|apply Xy.ok|exact Xy.exc|apply Xz.ok|exact Xz.exc|apply XA.ok|exact XA.exc|apply XB.ok|exact XB.exc|apply XC.ok|exact XC.exc|apply XD.ok|exact XD.exc|apply XE.ok|exact XE.exc|apply XF.ok|exact XF.exc|apply XG.ok|exact XG.exc|apply XH.ok|exact XH.exc|apply XI.ok|exact XI.exc|exact XJ.t|exact XJ.f|exact XJ.exc|apply XK.t|exact XK.f|exact XK.exc|exact XM.t|apply XM.f|exact XM.exc|apply XN.t|exact XN.f|apply XO.andT|exact XO.andF|apply XO.orF|exact XO.orT|apply XQ.next|exact XQ.ret|exact XQ.exc|exact XQ.cont|exact XQ.brk|apply XR.t|apply XR.f|exact XR.exc|exact XS.ok|apply XS.exc|exact XT|apply XU|apply XV.next|exact XV.ret|exact XV.exc|exact XW|exact XX)|exact XY rfl|apply XZ rfl Qa|apply XZ rfl Qb|exact (rfl : listFree _ = true)|exact X0 rfl|apply X1 rfl|exact X2 rfl|exact X3 rfl|exact (rfl : (_ : Option _) = some _)|decide)
  · have e5 := eqI_f (a := (t : Int)) (b := 1) (by omega)
    have f1 : ∃ d1 d2, F_law_told K [.int 1, .str (txt xa), .none] = .ok d1 ∧ F_law_row_due K [.str (txt xa)] = .ok (.sh d2) ∧ F_law_right K [d1.val, d2] = .ok (.sh (.bool true)) := by
      by_cases ho : okRow xa
      · exact ⟨_, _, told1_ok K _ _ (F_row_of_ok K ho), (F_row_due_txt K ha' ho.2.1 ho.2.2.1).1 ho, right_ints K _ (by rw [List.length_map]; omega)⟩
      · have g1 := told1_bad K (i := 6) (by decide) k.text (.str (txt xa)) .none (F_row_of_bad K (by omega) ho)
        by_cases hl : 3 ≤ xa.length ∧ xa.length ≤ 12
        · exact ⟨_, _, g1, (F_row_due_txt K ha' hl.1 hl.2).2 ho, rt⟩
        · exact ⟨_, _, g1, F_row_due_len K (by omega) hl, rt⟩
    obtain ⟨d1, d2, g1, g2, g3⟩ := f1
    have f2 : ∃ d3 d4, F_law_told K [.int 3, .int n, .str (txt xb)] = .ok d3 ∧ F_law_change_due K [.int n, .str (txt xb)] = .ok (.sh d4) ∧ F_law_right K [d3.val, d4] = .ok (.sh (.bool true)) := by
      rcases change_agree K h3 h12 hb' (by omega) with ⟨fs, c1, c2, c3⟩ | ⟨c1, c2⟩
      · exact ⟨_, _, told3_ok K _ _ c1, c2, by show F_law_right K [.tup (nD fs), .tup (nD fs)] = _; rw [nD_cI]; exact right_ints K _ (by unfold cI; rw [List.length_map]; omega)⟩
      · exact ⟨_, _, told3_bad K (i := 6) (by decide) k.text _ _ c1, c2, rt⟩
    obtain ⟨d3, d4, g4, g5, g6⟩ := f2
    have u1 : ∃ x, d1.val = x := ⟨_, rfl⟩
    have u2 : ∃ x, d3.val = x := ⟨_, rfl⟩
    obtain ⟨y1, u1⟩ := u1
    obtain ⟨y2, u2⟩ := u2
    rw [u1] at g3
    rw [u2] at g6
    refine ⟨some (.sh (.int m)), some (.sh (.str (txt xa))), some (.sh (.str (txt xb))), ?_⟩
    repeat' (first|(with_reducible first|assumption|exact Qa|exact Qb|exact Qc|apply Qd|exact Qe|apply Qf|exact Qg|apply Qh|exact Qi|apply Qj|exact Qk|apply Ql|apply Qm|exact Qn|exact Qo|apply Qp|exact Qq|exact Qr|apply Qs|exact Qt|exact Qu|exact Qv|exact Qw|exact Qx|exact Qy|exact Qz|apply QA|apply QB|apply QC|apply QD|apply QE|apply QF|apply QG|apply QH|apply QI|apply QJ|apply QK|apply QL|apply QM|apply QN|apply QO|apply QP|apply QQ|apply QR|apply QS|apply QT|apply QU|apply QV|apply QW|apply QX|apply QY|apply QZ|apply Q0|apply Q1|apply Q2|apply Q3|apply Q4|apply Q5|apply Q6|apply Q7|apply Q8|apply Q9|apply Xa|apply Xb|apply Xc|apply Xd|apply Xe|apply Xf|apply Xg|apply Xh|apply Xi|exact Xj|apply Xk.ok|exact Xk.exc|apply Xl.ok|exact Xl.exc|apply Xm.ok|exact Xm.exc|apply Xn.ok|exact Xn.exc|apply Xo.ok|exact Xo.exc|apply Xp.ok|exact Xp.exc|apply Xq.ok|exact Xq.exc|apply Xr.ok|exact Xr.exc|apply Xs.ok|exact Xs.exc|apply Xu.ok|exact Xu.exc|apply Xv.ok|exact Xv.exc|apply Xw.ok|exact Xw.exc|apply Xx.ok|exact Xx.exc|apply Xy.ok|exact Xy.exc|apply Xz.ok|exact Xz.exc|apply XA.ok|exact XA.exc|apply XB.ok|exact XB.exc|apply XC.ok|exact XC.exc|apply XD.ok|exact XD.exc|apply XE.ok|exact XE.exc|apply XF.ok|exact XF.exc|apply XG.ok|exact XG.exc|apply XH.ok|exact XH.exc|apply XI.ok|exact XI.exc|exact XJ.t|exact XJ.f|exact XJ.exc|apply XK.t|exact XK.f|exact XK.exc|exact XM.t|apply XM.f|exact XM.exc|apply XN.t|exact XN.f|apply XO.andT|exact XO.andF|apply XO.orF|exact XO.orT|apply XQ.next|exact XQ.ret|exact XQ.exc|exact XQ.cont|exact XQ.brk|apply XR.t|apply XR.f|exact XR.exc|exact XS.ok|apply XS.exc|exact XT|apply XU|apply XV.next|exact XV.ret|exact XV.exc|exact XW|exact XX)|exact XY rfl|apply XZ rfl Qa|apply XZ rfl Qb|exact (rfl : listFree _ = true)|exact X0 rfl|apply X1 rfl|exact X2 rfl|exact X3 rfl|exact (rfl : (_ : Option _) = some _)|decide)
end Mine
end

section
set_option Elab.async false
set_option maxRecDepth 100000
set_option maxHeartbeats 4000000
set_option linter.unusedSimpArgs false
set_option linter.unusedVariables false
namespace Mine
open PySem PySem.W
theorem ne_two {a b : List Nat} (ha : ∀ c ∈ a, c < 128) (hb : ∀ c ∈ b, c < 128) : neI (.list [.str (txt a), .str (txt b)]) (.list [.str (txt a), .str (txt b)]) = some (.sh (.bool false)) := by
  unfold neI eqD
  simp [toPy, toPys, SeqAt.shaped, PyData.canLay0, PyData.canLayAll0, PyData.depth, PyData.depthAll, PyData.eqv, PyData.eqvAll, strOk_txt ha, strOk_txt hb]
theorem ne_four : neI (.list [.list [.str "refused", .str "row"], .list [.str "refused", .str "bells"], .list [.str "refused", .str "change"], .list [.str "refused", .str "bells"]]) (.list [.list [.str "refused", .str "row"], .list [.str "refused", .str "bells"], .list [.str "refused", .str "change"], .list [.str "refused", .str "bells"]]) = some (.sh (.bool false)) := by
  unfold neI eqD
  simp [toPy, toPys, SeqAt.shaped, PyData.canLay0, PyData.canLayAll0, PyData.depth, PyData.depthAll, PyData.eqv, PyData.eqvAll, so_refused, so_row, so_bells, so_change]
theorem row_128 {n : Nat} {a : List Int} (r : Row n a) : ∀ c ∈ a.map sgAt, c < 128 := fun c hc => by
  obtain ⟨p, hp, rfl⟩ := List.mem_map.mp hc
  exact sg_128 _ (sgAt_mem (row_lt r p hp).1 (row_lt r p hp).2)
theorem stayT_len {n : Nat} (hn : n ≤ 12) (cs : List Nat) : (stayT n cs).length ≤ 100 := by
  unfold stayT
  split
  · decide
  · rw [List.length_map]; have := stayL_len n cs; omega
theorem change_of_own (K : Frag) {n : Nat} {cs : List Nat} (h3 : 3 ≤ n) (h12 : n ≤ 12) (hc : Change n cs) : F_change_of K [.int n, .str (txt (stayT n cs))] = .ok (.sh (.tup (nD cs))) := by
  have hd := Good_due h12 hc.ok (cs := stayT n cs) rfl
  have due := (F_change_due_txt K h3 h12 (stayT_128 h12 cs)).1 (by rw [hd]; exact ⟨hc.ne, last_le hc.ok hc.ne, rfl⟩)
  rw [hd] at due
  rcases change_agree K h3 h12 (stayT_128 h12 cs) (by have := stayT_len h12 cs; omega) with ⟨fs, c1, c2, _⟩ | ⟨_, c2⟩
  · rw [due] at c2
    injection c2 with c2
    injection c2 with c2
    injection c2 with c2
    rw [c1, c2]
  · rw [due] at c2; cases c2
theorem bad_rows (K : Frag) {n : Nat} {a : List Int} (r : Row n a) (t : Nat) (ht : t < 5) : ∃ d, idxI (.list [.list (iL a), .none, .tup ((iL a).drop 1 ++ ((iL a).drop 1).take 1), .tup ((iL a).take (n - 1) ++ [.int n]), .tup ([.str "1"] ++ (iL a).drop 1)]) (.int t) = some (.sh d) ∧ F_is_row K [d] = .ok (.sh (.bool false)) := by
  have h3 := r.h3
  have h12 := r.h12
  have hla := r.len
  have hlD : (iL a).length = n := by rw [iL_length, hla]
  have : t = 0 ∨ t = 1 ∨ t = 2 ∨ t = 3 ∨ t = 4 := by omega
  rcases this with rfl | rfl | rfl | rfl | rfl
  · exact ⟨_, idxI_list (by decide) (by decide) rfl, F_is_row_other K _ rfl (fun _ h => by cases h)⟩
  · exact ⟨_, idxI_list (by decide) (by decide) rfl, F_is_row_other K _ rfl (fun _ h => by cases h)⟩
  · refine ⟨_, idxI_list (by decide) (by decide) rfl, ?_⟩
    have e : (iL a).drop 1 ++ ((iL a).drop 1).take 1 = iL (a.drop 1 ++ (a.drop 1).take 1) := by unfold iL; simp
    have hl : (a.drop 1 ++ (a.drop 1).take 1).length = n := by rw [List.length_append, List.length_take, List.length_drop]; omega
    rw [e]
    refine F_is_row_bad K _ (by omega) (by omega) fun q => ?_
    rw [hl] at q
    have nd := (⟨q, h3, h12⟩ : Row n _).nodup
    have i1 : (a.drop 1 ++ (a.drop 1).take 1)[0]? = (a.drop 1 ++ (a.drop 1).take 1)[n - 1]? := by
      rw [List.getElem?_append_left (by rw [List.length_drop]; omega), List.getElem?_append_right (by rw [List.length_drop]; omega), List.length_drop, show n - 1 - (a.length - 1) = 0 by omega, List.getElem?_take_of_lt (by omega)]
    rw [List.getElem?_eq_getElem (by omega), List.getElem?_eq_getElem (by omega)] at i1
    have := (List.getElem_inj nd).mp (Option.some.inj i1)
    omega
  · refine ⟨_, idxI_list (by decide) (by decide) rfl, ?_⟩
    have := (odd_put K r (p := n - 1) (by omega) (.int n) rfl (fun v hv => by cases hv; exact .inl (by omega))).no
    rw [show n - 1 + 1 = n by omega, List.drop_of_length_le (by omega), List.append_nil] at this
    exact this
  · refine ⟨_, idxI_list (by decide) (by decide) rfl, ?_⟩
    exact (odd_put K r (p := 0) (by omega) (.str "1") rfl (fun v hv => by cases hv)).no
theorem odd_changes (K : Frag) {n : Nat} (t : Nat) (ht : t < 6) : ∃ d, idxI (.list [.tup [.int ((n : Int) - 1)], .none, .tup [], .tup [.int 0, .int 1], .tup [.int (-1)], .list [.str "0"]]) (.int t) = some (.sh d) ∧ F_need_places K [.int n, d] = .exc 61 := by
  have : t = 0 ∨ t = 1 ∨ t = 2 ∨ t = 3 ∨ t = 4 ∨ t = 5 := by omega
  rcases this with rfl | rfl | rfl | rfl | rfl | rfl
  · refine ⟨_, idxI_list (by decide) (by decide) rfl, (odd_tup K n [.int ((n : Int) - 1)] (by simp) (by simp) (fun d hd => by rw [List.mem_singleton.mp hd]; rfl) (fun q => ?_)).no⟩
    obtain ⟨v, hv, h1, h2⟩ := plOk_mem q _ (.head _)
    cases hv; omega
  · exact ⟨_, idxI_list (by decide) (by decide) rfl, F_need_places_other K n _ rfl (fun _ h => by cases h)⟩
  · exact ⟨_, idxI_list (by decide) (by decide) rfl, F_need_places_nil K n⟩
  · refine ⟨_, idxI_list (by decide) (by decide) rfl, (odd_tup K n [.int 0, .int 1] (by simp) (by simp) (fun d hd => by
      simp only [List.mem_cons, List.not_mem_nil, or_false] at hd
      rcases hd with rfl | rfl <;> rfl) (fun q => ?_)).no⟩
    have q' : (decide ((-2 : Int) + 2 ≤ 0) && decide ((0 : Int) ≤ n - 2) && plOk n 0 [.int 1]) = true := q
    rw [Bool.and_eq_true_iff] at q'
    obtain ⟨v, hv, h1, h2⟩ := plOk_mem q'.2 _ (.head _)
    cases hv; omega
  · refine ⟨_, idxI_list (by decide) (by decide) rfl, (odd_tup K n [.int (-1)] (by simp) (by simp) (fun d hd => by rw [List.mem_singleton.mp hd]; rfl) (fun q => ?_)).no⟩
    obtain ⟨v, hv, h1, h2⟩ := plOk_mem q _ (.head _)
    cases hv; omega
  · exact ⟨_, idxI_list (by decide) (by decide) rfl, F_need_places_other K n _ rfl (fun _ h => by cases h)⟩
theorem cut_butlast {ds : List D} (h : 0 < ds.length) : cutD ds none (some (-1)) = ds.take (ds.length - 1) := by
  unfold cutD
  have := clipAt_neg ds.length 1 (by decide)
  simp only [Option.elim, List.drop_zero, Nat.sub_zero]
  rw [show clipAt ds.length (-1) = ds.length - 1 from this]
theorem law04_plain (K : Frag) (k : KF K) (ns : List Int) (hl : ns.length ≤ 63) : F_law K [.list (iL ns)] = .ok (.sh (.bool true)) := by
  have c0 : F_law_cell K [.list (iL ns), .int 0] = .ok (.sh (.int (ns.getD 0 0))) := F_law_cell_ok K ns 0 hl
  have c1 : F_law_cell K [.list (iL ns), .int 1] = .ok (.sh (.int (ns.getD 1 0))) := F_law_cell_ok K ns 1 hl
  have c2 : F_law_cell K [.list (iL ns), .int 2] = .ok (.sh (.int (ns.getD 2 0))) := F_law_cell_ok K ns 2 hl
  have c3 : F_law_cell K [.list (iL ns), .int ((3 : Int) + ((0 : Nat) : Int))] = .ok (.sh (.int (ns.getD 3 0))) := F_law_cell_ok K ns 3 hl
  have c4 : F_law_cell K [.list (iL ns), .int ((3 : Int) + ((1 : Nat) : Int))] = .ok (.sh (.int (ns.getD 4 0))) := F_law_cell_ok K ns 4 hl
  have c5 : F_law_cell K [.list (iL ns), .int ((3 : Int) + ((2 : Nat) : Int))] = .ok (.sh (.int (ns.getD 5 0))) := F_law_cell_ok K ns 5 hl
  have c6 : F_law_cell K [.list (iL ns), .int 6] = .ok (.sh (.int (ns.getD 6 0))) := F_law_cell_ok K ns 6 hl
  generalize ns.getD 0 0 = v0 at c0
  generalize ns.getD 1 0 = v1 at c1
  generalize ns.getD 2 0 = v2 at c2
  generalize ns.getD 3 0 = v3 at c3
  generalize ns.getD 4 0 = v4 at c4
  generalize ns.getD 5 0 = v5 at c5
  generalize ns.getD 6 0 = v6 at c6
  generalize D.list (iL ns) = s at *
  obtain ⟨n, h3, h12, z0, m0, a0⟩ := three v0
  obtain ⟨a, fa, ra⟩ := F_law_row_ok K v1 n h3 h12
  obtain ⟨cs, fc, hc⟩ := F_law_change_ok K v2 n h3 h12
  have w1 := F_law_written_ok K ra
  have w2 := F_law_stays_ok K (dc := .tup (nD cs)) (cs := cs) h12 (hin_tup cs)
  have w3 := F_row_text_ok K ra
  have w4 := F_change_text_ok K h3 h12 hc
  have x1 := ne_two (row_128 ra) (stayT_128 h12 cs)
  have w5 := F_row_of_ok K (okRow_text ra)
  rw [map_forth (row_lt ra)] at w5
  have w6 := right_ints K a (by rw [ra.len]; omega)
  have w7 := change_of_own K h3 h12 hc
  have w8 := right_ints K (cI cs) (by unfold cI; rw [List.length_map]; have := chOk_len hc.ok (Nat.zero_le _); omega)
  rw [← nD_cI] at w8
  have lta : (a.map sgAt).length ≤ 100 := by rw [List.length_map, ra.len]; omega
  have ltb := stayT_len h12 cs
  have hta := row_128 ra
  have htb := stayT_128 h12 cs
  have x2 := eqI_txt hta hta
  rw [decide_eq_true rfl] at x2
  generalize a.map sgAt = ta at *
  generalize stayT n cs = tb at *
  obtain ⟨p6, p7, p8, t1⟩ := text_turn K k (s := s) (n := n) (ta := ta) (tb := tb) h3 h12 hta htb lta ltb (j := 0) c3 (r2 := some (.sh (.tup (iL a)))) (r3 := some (.sh (.tup (nD cs)))) (r6 := none) (r7 := none) (r8 := none) (r9 := none) (r10 := none) (r11 := none) (r12 := none)
  obtain ⟨q6, q7, q8, t2⟩ := text_turn K k (s := s) (n := n) (ta := ta) (tb := tb) h3 h12 hta htb lta ltb (j := 1) c4 (r2 := some (.sh (.tup (iL a)))) (r3 := some (.sh (.tup (nD cs)))) (r6 := p6) (r7 := p7) (r8 := p8) (r9 := none) (r10 := none) (r11 := none) (r12 := none)
  obtain ⟨u6, u7, u8, t3⟩ := text_turn K k (s := s) (n := n) (ta := ta) (tb := tb) h3 h12 hta htb lta ltb (j := 2) c5 (r2 := some (.sh (.tup (iL a)))) (r3 := some (.sh (.tup (nD cs)))) (r6 := q6) (r7 := q7) (r8 := q8) (r9 := none) (r10 := none) (r11 := none) (r12 := none)
  have lp := XU (b := bName 5) (d := .int ((0 : Nat) : Int)) (ds := [.int ((1 : Nat) : Int), .int ((2 : Nat) : Int)]) (ρ := [some (.sh s), some (.sh (.int n)), some (.sh (.tup (iL a))), some (.sh (.tup (nD cs))), some (.ow true (.list [.str (txt ta), .str (txt tb)])), none, none, none, none, none, none, none, none]) rfl t1 (.next (XU (b := bName 5) rfl t2 (.next (XU (b := bName 5) rfl t3 (.next XT)))))
  have i1 : itemsD (.range 0 3 1) = some [.int ((0 : Nat) : Int), .int ((1 : Nat) : Int), .int ((2 : Nat) : Int)] := by
    have := items_rng 3 (by decide)
    rw [rng_nD] at this
    exact this
  have mx := F_law_mix_ok K v6 6 (small_of (by decide))
  generalize mix v6 6 = m at mx
  obtain ⟨t, ht, ht5⟩ := fmod_nat m (n := 5) (by decide)
  have m5 : modI (.int m) (.int 5) = some (.sh (.int t)) := by rw [Q5 (by decide)]; rw [show m.fmod 5 = t from ht]
  obtain ⟨q, hq, hq6⟩ := fmod_nat (m.fdiv 5) (n := 6) (by decide)
  have m6 : modI (.int (m.fdiv 5)) (.int 6) = some (.sh (.int q)) := by rw [Q5 (by decide)]; rw [show (m.fdiv 5).fmod 6 = q from hq]
  obtain ⟨o, ho, ho5⟩ := fmod_nat (m.fdiv 30) (n := 5) (by decide)
  have m7 : modI (.int (m.fdiv 30)) (.int 5) = some (.sh (.int o)) := by rw [Q5 (by decide)]; rw [show (m.fdiv 30).fmod 5 = o from ho]
  have : ∃ e, idxI (.list [.int 2, .int 13, .bool true, .none, .str "6"]) (.int t) = some (.sh e) ∧ calm e = true ∧ ∀ n, e = .int n → ¬ (3 ≤ n ∧ n ≤ 12) := by
    have : t = 0 ∨ t = 1 ∨ t = 2 ∨ t = 3 ∨ t = 4 := by omega
    rcases this with rfl | rfl | rfl | rfl | rfl
    · exact ⟨_, idxI_list (by decide) (by decide) rfl, rfl, fun v hv => by cases hv; decide⟩
    · exact ⟨_, idxI_list (by decide) (by decide) rfl, rfl, fun v hv => by cases hv; decide⟩
    · exact ⟨_, idxI_list (by decide) (by decide) rfl, rfl, fun v hv => by cases hv⟩
    · exact ⟨_, idxI_list (by decide) (by decide) rfl, rfl, fun v hv => by cases hv⟩
    · exact ⟨_, idxI_list (by decide) (by decide) rfl, rfl, fun v hv => by cases hv⟩
  obtain ⟨e, he, hec, heb⟩ := this
  obtain ⟨od, hod, hodn⟩ := odd_changes K (n := n) q hq6
  obtain ⟨x, hx, hxb⟩ := bad_rows K ra o ho5
  have hneg : negI (.int 1) = some (.sh (.int (-1))) := rfl
  have nb := F_need_bells_bad K e hec heb
  have y1 : F_law_told K [.int 0, x, .none] = .ok (.ow true (.list [.str "refused", .str "row"])) := told0_bad K (i := 1) (by decide) k.row _ _ (F_row_text_bad K _ hxb)
  have y2 : F_law_told K [.int 2, e, od] = .ok (.ow true (.list [.str "refused", .str "bells"])) := told2_bad K (i := 0) (by decide) k.bells _ _ (F_change_text_bad K _ _ (F_need_change_bells K nb))
  have y3 : F_law_told K [.int 2, .int n, od] = .ok (.ow true (.list [.str "refused", .str "change"])) := told2_bad K (i := 2) (by decide) k.change _ _ (F_change_text_bad K _ _ (F_need_change_bad K h3 h12 hodn))
  have y4 : F_law_told K [.int 3, e, .str ""] = .ok (.ow true (.list [.str "refused", .str "bells"])) := told3_bad K (i := 0) (by decide) k.bells _ _ (F_change_of_bells K _ _ nb)
  have y5 := ne_four
  have hla := ra.len
  have hlD : (iL a).length = n := by rw [iL_length, hla]
  have g2 : listI [.tup (iL a)] = some (.ow true (.list (iL a))) := by rw [listI, if_pos (by omega)]
  have g3 : sliceI (.tup (iL a)) none (some (-1)) = some (.sh (.tup ((iL a).take (n - 1)))) := by rw [sliceI, if_pos (by omega), cut_butlast (by omega), hlD]
  have g6 : sliceI (.tup (iL a)) (some 1) none = some (.sh (.tup ((iL a).drop 1))) := by
    rw [sliceI, if_pos (by omega), show (1 : Int) = ((1 : Nat) : Int) from rfl, cut_from (by omega)]
  have g8 : sliceI (.tup (iL a)) (some 1) (some 2) = some (.sh (.tup (((iL a).drop 1).take 1))) := by
    rw [sliceI, if_pos (by omega), show (1 : Int) = ((1 : Nat) : Int) from rfl, show (2 : Int) = ((2 : Nat) : Int) from rfl, cut_mid]
  have g9 : addD (.tup ((iL a).drop 1)) (.tup (((iL a).drop 1).take 1)) = some (.sh (.tup ((iL a).drop 1 ++ ((iL a).drop 1).take 1))) := by rw [addD, if_pos (by rw [List.length_take, List.length_drop]; omega)]
  have g5 : addD (.tup ((iL a).take (n - 1))) (.tup [.int n]) = some (.sh (.tup ((iL a).take (n - 1) ++ [.int n]))) := by rw [addD, if_pos (by rw [List.length_take]; simp; omega)]
  have g7 : addD (.tup [.str "1"]) (.tup ((iL a).drop 1)) = some (.sh (.tup ([.str "1"] ++ (iL a).drop 1))) := by rw [addD, if_pos (by rw [List.length_drop]; simp; omega)]
  unfold F_law f_law
  refine' run_of [some (.sh s), none, none, none, none, none, none, none, none, none, none, none, none] rfl rfl ?_ fin_ret
  repeat' (first|(with_reducible first|assumption|exact Qa|exact Qb|exact Qc|apply Qd|exact Qe|apply Qf|exact Qg|apply Qh|exact Qi|apply Qj|exact Qk|apply Ql|apply Qm|exact Qn|exact Qo|apply Qp|exact Qq|exact Qr|apply Qs|exact Qt|exact Qu|exact Qv|exact Qw|exact Qx|exact Qy|exact Qz|apply QA|apply QB|apply QC|apply QD|apply QE|apply QF|apply QG|apply QH|apply QI|apply QJ|apply QK|apply QL|apply QM|apply QN|apply QO|apply QP|apply QQ|apply QR|apply QS|apply QT|apply QU|apply QV|apply QW|apply QX|apply QY|apply QZ|apply Q0|apply Q1|apply Q2|apply Q3|apply Q4|apply Q5|apply Q6|apply Q7|apply Q8|apply Q9|apply Xa|apply Xb|apply Xc|apply Xd|apply Xe|apply Xf|apply Xg|apply Xh|apply Xi|exact Xj|apply Xk.ok|exact Xk.exc|apply Xl.ok|exact Xl.exc|apply Xm.ok|exact Xm.exc|apply Xn.ok|exact Xn.exc|apply Xo.ok|exact Xo.exc|apply Xp.ok|exact Xp.exc|apply Xq.ok|exact Xq.exc|apply Xr.ok|exact Xr.exc|apply Xs.ok|exact Xs.exc|apply Xu.ok|exact Xu.exc|apply Xv.ok|exact Xv.exc|apply Xw.ok|exact Xw.exc|apply Xx.ok|exact Xx.exc|apply Xy.ok|exact Xy.exc|apply Xz.ok|exact Xz.exc|apply XA.ok|exact XA.exc|apply XB.ok|exact XB.exc|apply XC.ok|exact XC.exc|apply XD.ok|exact XD.exc|apply XE.ok|exact XE.exc|apply XF.ok|exact XF.exc|apply XG.ok|exact XG.exc|apply XH.ok|exact XH.exc|apply XI.ok|exact XI.exc|exact XJ.t|exact XJ.f|exact XJ.exc|apply XK.t|exact XK.f|exact XK.exc|exact XM.t|apply XM.f|exact XM.exc|apply XN.t|exact XN.f|apply XO.andT|exact XO.andF|apply XO.orF|exact XO.orT|apply XQ.next|exact XQ.ret|exact XQ.exc|exact XQ.cont|exact XQ.brk|apply XR.t|apply XR.f|exact XR.exc|exact XS.ok|apply XS.exc|exact XT|apply XU|apply XV.next|exact XV.ret|exact XV.exc|exact XW|exact XX)|exact XY rfl|apply XZ rfl Qa|apply XZ rfl Qb|exact (rfl : listFree _ = true)|exact X0 rfl|apply X1 rfl|exact X2 rfl|exact X3 rfl|exact (rfl : (_ : Option _) = some _)|decide)
end Mine
end

section
set_option Elab.async false
set_option maxRecDepth 100000
namespace Mine
open PySem PySem.W PyProof.Rows
theorem KF_ok (P : Params) : KF (hd.heap_1 P) where
  bells := ⟨by kernel_rfl, by kernel_rfl, by kernel_rfl, by kernel_rfl, by kernel_rfl, by kernel_rfl, by kernel_rfl, by kernel_rfl, by kernel_rfl⟩
  row := ⟨by kernel_rfl, by kernel_rfl, by kernel_rfl, by kernel_rfl, by kernel_rfl, by kernel_rfl, by kernel_rfl, by kernel_rfl, by kernel_rfl⟩
  change := ⟨by kernel_rfl, by kernel_rfl, by kernel_rfl, by kernel_rfl, by kernel_rfl, by kernel_rfl, by kernel_rfl, by kernel_rfl, by kernel_rfl⟩
  text := ⟨by kernel_rfl, by kernel_rfl, by kernel_rfl, by kernel_rfl, by kernel_rfl, by kernel_rfl, by kernel_rfl, by kernel_rfl, by kernel_rfl⟩
end Mine
theorem PySem.Challenge.cw_uf010040_04_holds : PySem.Challenge.rw_uf010040_04.Holds :=
  Mine.law04_enter fun P ns hl => Mine.law04_plain _ (Mine.KF_ok P) ns hl
end
