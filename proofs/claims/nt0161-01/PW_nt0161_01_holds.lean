import PyProof.Rows.All
import Wide.All
import OpenK.AllK
import Wide.FinOn
import PyProof.ExcBaseAll.Exception
import PyProof.ExcAttrAll.Exception
import PyProof.ExcInit
import KE.KEqSeq
import KE.KTryDeep
import KE.KTryDeepN
import KE.KTryMore
import PySem.Challenge.RW_nt0161_01
set_option Elab.async false
set_option maxRecDepth 100000
set_option rowWalk.seconds 0
section HD
open PySem PySem.W PyProof.Rows
set_option maxHeartbeats 8000000
namespace Mine
open_top hd for PySem.Challenge.rw_nt0161_01
end Mine
end HD

section Base
open PySem PySem.W PyProof.Rows
set_option maxHeartbeats 8000000
namespace Mine
noncomputable abbrev LS : List Str := looseW hd.view_39 [Str.ofString "REACH"] ++ (recsOf hd.view_39).map (fun x => x.name) ++ (litsOf hd.view_39).map (fun x => x.1) ++ (clssOf hd.view_39 (looseW hd.view_39 [Str.ofString "REACH"])).map (fun x => x.name)
abbrev Cl (w : World) (mean : ExcName → Option Value) (mg mb : Str → Option Value) (f : Addr) (news : List (Addr × Obj)) (pre : Prop) (vs : List Value) (R : Tok → Value) : Prop :=
  CbClaim PySem.Challenge.rw_nt0161_01.row.prog w (hd.heap_39 w.params) topProg LS mean mg mb f news [] pre vs R
end Mine
end Base

section E1
set_option maxHeartbeats 4000000
namespace Mine
open PySem PySem.W PySem.Spec PySem.Calls PyProof.Rows

/-- a class under an own class under Exception -/
abbrev exMro : List Value := [.ref 31, .type "Exception", .type "BaseException", .type "object"]
abbrev exObj (C : Addr) (t : Addr) (d : Option Addr) : Obj := { cls := .ref C, dict := d, data := .fields #[.ref t, .none, .none, .none, .bool false, .none] }
abbrev tupOf (vs : List Value) : Obj := { cls := .type "tuple", data := .seq vs.toArray }

section
variable {prog : Program} {w : World} {A : Around} {E : Value → Shared → Prop} {h : Heap} {g : Array GenState} {d : Drawn} {t : Nat} {os : OsState}
variable {nm q : Str} {C N : Addr} {bs : List Value} {hdct : Bool} {sn : List Str} {sub : List Value} {ab : Bool} {col : Option Bool} {dd : Option Addr} {k0 k1 k2 k3 k5 : Option Value}

theorem ex_check {M : Model} {rest : List Value} {Q : Unit → Shared → Prop} (hC : h.get? C = some (excClassObj nm q C N bs exMro hdct sn sub ab col dd k0 k1 k2 k3 k5 "Exception.__new__"))
    (hq : Q () ⟨h, g, d, t, os⟩) : wpAny M A (checkBuiltinCall "Exception.__new__" ⟨.ref C :: rest, []⟩) Q E ⟨h, g, d, t, os⟩ :=
  wpAny_check_new_subU (bmB := exMro) PySem.F.excBase_Exception (by decide) .base hC hq

theorem ex_new {R : Result → Shared → Prop} {rest : List Value} (hC : h.get? C = some (excClassObj nm q C N bs exMro hdct sn sub ab col dd k0 k1 k2 k3 k5 "Exception.__new__"))
    (hq : R (.ok (.ret (.ref (h.objs.size + 1)))) ⟨(h.push (tupOf rest)).push (exObj C h.objs.size none), g, d, t, os⟩) (hrest : rest.length ≤ sizeLine) :
    codeAny (model prog w) A (.builtin "Exception.__new__" ⟨.ref C :: rest, []⟩) R ⟨h, g, d, t, os⟩ := by
  have Fn := PySem.F.excBase_Exception
  have hends := Fn.ends
  have hcB : (Value.ref C :: exMro).contains (.type "Exception") = true := by rw [List.contains_cons]; exact Bool.or_true _
  have hcA : (Value.ref C :: exMro).contains (.type "AttributeError") = false := by rw [List.contains_cons]; rfl
  have hcN : (Value.ref C :: exMro).contains (.type "NameError") = false := by rw [List.contains_cons]; rfl
  refine codeAny_builtinAt Fn.entry ?_
  unfold Builtin.«BaseException.__new__»
  refine PySem.wpAt_bind ?_
  show PySem.wpAt _ _ _ (stack >>= _) _ _ _
  refine PySem.wpAt_bind (PySem.wpAt_stack fun p below => PySem.wpAt_of_wpAny ?_)
  wp_walk
  refine PySem.wpAt_of_wpAny ?_
  rw [Fn.owner]
  repeat (first | with_reducible refine wpAny_madeHere_exc Fn.canon hC ?_ | with_reducible refine wpAny_loadPart_at hC ?_ | (with_reducible refine wpAny_isSubtype_exc hC ?_; first | rw [hcB] | rw [hcA] | rw [hcN]) | wp_step)
  show R _ _
  rw [Heap.size_push]
  exact hq

theorem ex_type_call {rest : List Value} {fI : Addr} {oI : Obj} {Q : Fin → Shared → Prop}
    (hC : h.get? C = some (excClassObj nm q C N bs exMro hdct sn sub ab col dd k0 k1 k2 k3 k5 "Exception.__new__"))
    (hi : Looks (model prog w) h (typeLookup (.ref C) "__init__") (some (.ref fI)))
    (hfI : h.get? fI = some oI) (hfc : oI.cls = .type "function") (hrest : rest.length ≤ sizeLine)
    (hq : wpAny (model prog w) A (call (.ref fI) (.ref (h.objs.size + 1) :: rest)) (fun r s' => r = .none ∧ Q (.done (.ret (.ref (h.objs.size + 1)))) s') E ⟨(h.push (tupOf rest)).push (exObj C h.objs.size none), g, d, t, os⟩) :
    wpAny (model prog w) A (Builtin.«type.__call__» ⟨.ref C :: rest, []⟩) Q E ⟨h, g, d, t, os⟩ := by
  have F := PySem.F.excBase_Exception
  repeat (first | with_reducible refine wpAny_loadPart_at hC ?_ | with_reducible refine wpAny_madeBy_exc hC ?_ | wp_step)
  refine codeAny_call_builtin_code (Code.quiet_builtin _ F.quiet) (ex_check hC ?_)
  refine ex_new hC ?_ hrest
  show wpAny _ _ _ _ _ _
  have k : ∀ b o, h.get? b = some o → ((h.push (tupOf rest)).push (exObj C h.objs.size none)).get? b = some o := fun b o e => Heap.get?_push_of_some _ (Heap.get?_push_of_some _ e)
  have hC₁ := k _ _ hC
  have hfI₁ := k _ _ hfI
  have hget : ((h.push (tupOf rest)).push (exObj C h.objs.size none)).get? (h.objs.size + 1) = some (exObj C h.objs.size none) := by heap_get
  have hcC : (Value.ref C :: exMro).contains (.ref C) = true := by simp
  unfold isInstance
  repeat (first | with_reducible refine wpAny_loadPart_at hget ?_ | (with_reducible refine wpAny_isSubtype_exc hC₁ ?_; rw [hcC]) | wp_step)
  show wpAny _ _ (typeLookup (.ref C) _) _ _ _
  refine (hi.keeps k).here ?_
  refine wpAny_holding (wpAny_bind ?_)
  unfold bindSpecial
  refine wpAny_bind (wpAny_typeOf (T := "function") ⟨_, hfI₁, hfc⟩ ?_)
  rw [if_pos (by decide)]
  refine wpAny_pure (wpAny_bind (wpAny_mono hq (fun r s' hr => ?_) fun _ _ x => x))
  obtain ⟨rfl, hQ⟩ := hr
  wp_walk
  exact hQ

theorem ex_call {rest : List Value} {fI : Addr} {oI : Obj} {Q : Value → Shared → Prop}
    (hC : h.get? C = some (excClassObj nm q C N bs exMro hdct sn sub ab col dd k0 k1 k2 k3 k5 "Exception.__new__"))
    (hi : Looks (model prog w) h (typeLookup (.ref C) "__init__") (some (.ref fI)))
    (hfI : h.get? fI = some oI) (hfc : oI.cls = .type "function") (hrest : rest.length ≤ sizeLine)
    (hq : wpAny (model prog w) (A.under (.builtin "type.__call__" ⟨.ref C :: rest, []⟩)) (call (.ref fI) (.ref (h.objs.size + 1) :: rest)) (fun r s' => r = .none ∧ Q (.ref (h.objs.size + 1)) s') E ⟨(h.push (tupOf rest)).push (exObj C h.objs.size none), g, d, t, os⟩) :
    wpAny (model prog w) A (call (.ref C) rest) Q E ⟨h, g, d, t, os⟩ := by
  have f1 := tc_lookup
  have f2 := tc_bind (.ref C)
  have hT : (⟨h, g, d, t, os⟩ : Shared).TypeIs (.ref C) "type" := ⟨_, hC, rfl⟩
  refine wpAny_call (codeAny_of_tree ?_)
  show wpAny _ _ (callAny (.ref C) _) _ _ _
  repeat (any_goals (first | assumption | with_reducible refine wpAny_loadPart_at hC ?_ | wp_step))
  refine ⟨rfl, ?_⟩
  exact codeAny_call_builtin_at (Code.quiet_builtin _ (by decide +kernel)) entry_typeCall (wpAny_check_type_call_sub hC (ex_type_call hC hi hfI hfc hrest hq))
end

/-- a class as the kept part writes it out -/
noncomputable def exIn (K : Frag) (C : Addr) : Bool := match K.lookup C with
  | some ⟨.type "type", _, .cls cd, sl⟩ => (match cd.mro, sl.toList with
    | .ref C' :: bm, [_, _, _, _, some (.builtin n), _] => C' == C && n == "Exception.__new__" && !cd.hasDel && bm == exMro
    | _, _ => false)
  | _ => false
theorem ex_cls {K : Frag} {h : Heap} {C : Addr} (X : K.In h) (q : exIn K C = true) : ∃ nm qn N bs hdct sn sub ab col dd k0 k1 k2 k3 k5, h.get? C = some (excClassObj nm qn C N bs exMro hdct sn sub ab col dd k0 k1 k2 k3 k5 "Exception.__new__") := by
  unfold exIn at q
  split at q
  · rename_i dd cd sl ho
    split at q
    · rename_i C' bm k0 k1 k2 k3 n k5 hm hs
      simp only [Bool.and_eq_true, beq_iff_eq, Bool.not_eq_true'] at q
      obtain ⟨⟨⟨rfl, rfl⟩, hdel⟩, rfl⟩ := q
      obtain ⟨nm, bs, mro, ns, qn, hd, sn, sub, ab, col, del⟩ := cd
      dsimp only at hm hdel
      subst hm hdel
      have hsl : sl = #[k0, k1, k2, k3, some (.builtin "Exception.__new__"), k5] := by
        obtain ⟨l⟩ := sl
        simp only at hs
        rw [hs]
      subst hsl
      exact ⟨nm, qn, ns, bs, hd, sn, sub, ab, col, dd, k0, k1, k2, k3, k5, X _ _ ho⟩
    · cases q
  · cases q

section
variable {prog : Program} {w : World} {A : Around} {E : Value → Shared → Prop} {s : Shared} {K : Frag} {C L : Addr} {h₀ : Heap} {m : Str → Option Value} {news : List (Addr × Obj)} {Q : Value → Shared → Prop}
theorem ex_make {rest : List Value} {fI : Addr} (F : Fr h₀ L s.heap m) (X₀ : K.In h₀) (N : News h₀ L s.heap news) (hm : exIn K C = true) (hi : findIn K (.ref C) "__init__" = some (some (.ref fI))) (hf : isFn K (.ref fI) = true) (hrest : rest.length ≤ sizeLine)
    (h : ∀ e t h', Fr h₀ L h' m → News h₀ L h' ((e, exObj C t none) :: (t, tupOf rest) :: news) → (∀ p ∈ news, p.1 < t) → t < e →
      codeAny (model prog w) (A.under (.builtin "type.__call__" ⟨.ref C :: rest, []⟩)) (.call (.ref fI) ⟨.ref e :: rest, []⟩) (InitBack e fun r s' => match r with | .ok (.ret v) => Q v s' | .ok _ => False | .error e => E e s') { s with heap := h' }) :
    wpAny (model prog w) A (call (.ref C) rest) Q E s := by
  have X := X₀.keeps F.keep
  obtain ⟨nm, qn, N', bs, hdct, sn, sub, ab, col, dd, k0, k1, k2, k3, k5, hC⟩ := ex_cls X hm
  obtain ⟨oI, hfI, hfc⟩ : ∃ oI, s.heap.get? fI = some oI ∧ oI.cls = .type "function" := by
    have z : typeIn K (.ref fI) = some (.type "function") := beq_iff_eq.mp hf
    obtain ⟨o, ho, hc⟩ := Option.map_eq_some_iff.mp z
    exact ⟨o, X _ _ ho, hc⟩
  obtain ⟨hh, g, d, t, os⟩ := s
  refine ex_call hC (looks_findIn X hi) hfI hfc hrest ?_
  have N₂ := (N.push F (tupOf rest)).push (F.push _) (exObj C hh.objs.size none)
  rw [Heap.size_push] at N₂
  refine wpAny_mono (wpAny_call (codeAny_mono (h (hh.objs.size + 1) hh.objs.size _ ((F.push _).push _) N₂ (fun p hp => Heap.lt_size (N p hp).1) (Nat.lt_succ_self _)) fun r s' z => ?_)) (Q := fun r s' => r = .none ∧ Q (.ref (hh.objs.size + 1)) s') (E := E) (fun _ _ z => z) fun _ _ z => z
  rcases r with e | (v | _ | _ | _) <;> first | exact z | exact z.elim
end
end Mine
end E1

section E2
set_option maxHeartbeats 4000000
namespace Mine
open PySem PySem.W PySem.Spec PySem.Calls PyProof.Rows Builtin Builtin.ObjectAttr

theorem ex_refuse1 (self : Value) : refuseLoop self "__setattr__" [.type "Exception", .type "BaseException", .type "object"] = pure () := by kernel_rfl
theorem ex_refuse (self : Value) (C : Addr) : refuseLoop self "__setattr__" (.ref C :: exMro) = pure () := by
  rw [refuseLoop_ref, refuseLoop_ref]; exact ex_refuse1 self
/-- the class's order of search is C, then exMro -/
noncomputable def exOver (K : Frag) (C : Addr) : Bool := (clsIn K C).any fun cd => cd.mro == .ref C :: exMro && cd.hasDict

section
variable {prog : Program} {w : World} {A : Around} {E : Value → Shared → Prop} {s : Shared} {K : Frag} {C L x : Addr} {h₀ : Heap} {m : Str → Option Value} {news : List (Addr × Obj)} {R : Result → Shared → Prop}

theorem ex_osa_open {ox : Obj} {od : Option Obj} {name : Str} {tk : Tok} {v : Value} (X : K.In s.heap) (I : InstAt s.heap x ox C od) (hp : exOver K C = true) (ht : findIn K (.ref C) name = some none)
    (h : wpAny (model prog w) A.in1 (storeInOwnDict (.ref x) (.ref C) (.str name tk) name v false)
      (fun fin s' => match fin with | .done f => R (.ok f) s' | .again c' => c'.quiet = true ∧ codeAny (model prog w) A c' R s') (fun e s' => R (.error e) s') s) :
    codeAny (model prog w) A (.call (.builtin "object.__setattr__") ⟨[.ref x, .str name tk, v], []⟩) R s := by
  have SF := PySem.F.store_object
  obtain ⟨cd, hc, ho⟩ := any_some hp
  simp only [Bool.and_eq_true, beq_iff_eq] at ho
  obtain ⟨ho, -⟩ := ho
  have sub : Looks (model prog w) s.heap (isInstance (.ref x) (.type "object")) true := I.type.andThen (looks_mroIn X (by unfold mroIn; rw [hc, Option.bind_some, ho]; rfl))
  refine codeAny_call_builtin SF.slot.plain SF.entry (@check_slot (model prog w) _ _ s "object.__setattr__" "object" "__setattr__" (.ref x) [.str name tk, v] [] _ SF.kind SF.split sub (SF.args (.ref x) (.str name tk) v) ?_)
  have hm : Looks (model prog w) s.heap (mroOf (.ref C)) cd.mro := (looks_clsIn X hc).andThen .now
  rw [osa_eq, refuse_eq]
  refine wpAny_bind (wpAny_bind (I.type.here (wpAny_bind (hm.here ?_))))
  rw [ho, ex_refuse]
  exact wpAny_pure (wpAny_bind (I.type.here (wpAny_bind ((looks_findIn X ht).here (wpAny_bind (wpAny_pure h))))))

theorem ex_store {dx : Addr} {name : Str} {tk : Tok} {v : Value} {es es' : List DictEntry} {n n' : Nat} {pre post : List (Addr × Obj)} {Q : Fin → Shared → Prop} (F : Fr h₀ L s.heap m) (N : News h₀ L s.heap (pre ++ (dx, dictOf es n) :: post))
    (hl : (getL name es).isSome = true) (h1 : ∀ p ∈ pre, p.1 ≠ dx) (h2 : ∀ p ∈ post, p.1 ≠ dx)
    (e : (putL name (PyData.keyHash w.params name) (.str name s.toks) v es, putN name es n) = (es', n')) (hz : es'.length ≤ 1000)
    (h : ∀ h', Fr h₀ L h' m → News h₀ L h' (pre ++ (dx, dictOf es' n') :: post) → Q (.done (.ret .none)) { s with heap := h', toks := s.toks + 1 }) :
    wpAny (model prog w) A (storeInDict dx (.str name tk) name v) Q E s := by
  obtain ⟨e1, e2⟩ := Prod.mk.inj e
  have hput : Obj.putName name (PyData.keyHash w.params name) (.str name s.toks) v (dictOf es n) = dictOf es' n' := by rw [putName_dict, e1, e2]
  obtain ⟨U1, U2⟩ := news_upd (f := Obj.putName name (PyData.keyHash w.params name) (.str name s.toks) v) F N h1 h2 hput rfl
  have D := (N (dx, dictOf es n) (by simp)).1
  have D' := (U2 (dx, dictOf es' n') (by simp)).1
  unfold storeInDict
  refine wpAny_bind (wpAny_pure (wpAny_bind ?_))
  unfold nsSet
  refine wpAny_bind (wpAny_bind (wpAny_askSetting (wpAny_pure (wpAny_bind (wpAny_mkText (wpAny_bind (wpAny_loadPart D ?_)))))))
  have c : (!es.toArray.any (·.key.isStr name) && es.toArray.any (·.refKey)) = false := by
    rw [List.any_toArray, List.any_toArray]
    unfold getL at hl
    split at hl
    · rename_i en he
      rw [List.any_eq_true.mpr ⟨en, List.mem_of_find?_eq_some he, List.find?_some he⟩]; rfl
    · split at hl
      · cases hl
      · rename_i z; rw [Bool.not_eq_true] at z; rw [z, Bool.and_false]
  dsimp only
  rw [aRefKeyMayBeTheName_at, c]
  refine wpAny_updatePart D ?_
  refine wpAny_bind (wpAny_lookBehind D' (pastItsLine_dict (by rw [List.size_toArray, sizeLine_eq]; omega)) ?_)
  exact wpAny_pure (h _ U1 U2)

/-- the second store and the ones behind it -/
theorem ex_set {ox : Obj} {dx : Addr} {es es' : List DictEntry} {n n' : Nat} {name : Str} {v : Value} {news' : List (Addr × Obj)} {Q : Unit → Shared → Prop} (F : Fr h₀ L s.heap m) (X₀ : K.In h₀) (N : News h₀ L s.heap news) (hx : (x, ox) ∈ news) (hcl : ox.cls = .ref C) (hno : notCls ox = true) (hd : ox.dict = some dx)
    (hm : (dx, dictOf es n) ∈ news)
    (hs : findIn K (.ref C) "__setattr__" = some (some (.builtin "object.__setattr__"))) (hp : exOver K C = true) (ht : findIn K (.ref C) name = some none) (hl : (getL name es).isSome = true)
    (e : (putL name (PyData.keyHash w.params name) (.str name (s.toks + 1)) v es, putN name es n) = (es', n')) (U : Upd dx (dictOf es n) (dictOf es' n') news news') (hz : es'.length ≤ 1000)
    (h : ∀ h', Fr h₀ L h' m → News h₀ L h' news' → Q () { s with heap := h', toks := s.toks + 2 }) :
    wpAny (model prog w) A (setAttr (.ref x) name v) Q E s := by
  have I : InstAt s.heap x ox C (some (dictOf es n)) := ⟨N.get hx, hcl, hno, by rw [hd]; exact N.get hm⟩
  have X := X₀.keeps F.keep
  obtain ⟨pre, post, rfl, rfl, a, b⟩ := U.split
  obtain ⟨cd, hc, ho⟩ := any_some hp
  simp only [Bool.and_eq_true, beq_iff_eq] at ho
  refine set_plain X I hs (ex_osa_open (s := { s with toks := s.toks + 1 }) X I hp ht ?_)
  unfold storeInOwnDict
  refine wpAny_bind (wpAny_pure (wpAny_bind ?_))
  refine wpAny_bind (wpAny_loadPart I.at_ ?_)
  rw [hcl]
  refine wpAny_bind ((looks_clsIn X hc).here (s := { s with toks := s.toks + 1 }) ?_)
  rw [ho.2, hd]
  refine wpAny_pure (a := some dx) ?_
  exact ex_store (s := { s with toks := s.toks + 1 }) F N hl a b e hz h

/-- the first store makes the dict -/
theorem ex_set0 {ox : Obj} {name : Str} {v : Value} {gg : Obj → List (Addr × Obj)} {vs : Array Value} {Q : Unit → Shared → Prop} (F : Fr h₀ L s.heap m) (X₀ : K.In h₀) (N : News h₀ L s.heap news) (hx : (x, ox) ∈ news) (hcl : ox.cls = .ref C) (hd : ox.dict = none) (hda : ox.data = .fields vs)
    (hs : findIn K (.ref C) "__setattr__" = some (some (.builtin "object.__setattr__"))) (hp : exOver K C = true) (ht : findIn K (.ref C) name = some none)
    (U : UpdF x ox news gg)
    (h : ∀ dx h' k, Fr h₀ L h' m → News h₀ L h' ((dx, dictOf [⟨PyData.keyHash w.params name, .str name k, v⟩] 1) :: gg { ox with dict := some dx }) → (∀ p ∈ news, p.1 < dx) → Q () { s with heap := h', toks := s.toks + 2 }) :
    wpAny (model prog w) A (setAttr (.ref x) name v) Q E s := by
  have hno : notCls ox = true := by unfold notCls; rw [hda]
  have I : InstAt s.heap x ox C none := ⟨N.get hx, hcl, hno, by rw [hd]; trivial⟩
  have X := X₀.keeps F.keep
  obtain ⟨cd, hc, ho⟩ := any_some hp
  simp only [Bool.and_eq_true, beq_iff_eq] at ho
  refine set_plain X I hs (ex_osa_open (s := { s with toks := s.toks + 1 }) X I hp ht ?_)
  unfold storeInOwnDict
  refine wpAny_bind (wpAny_pure (wpAny_bind ?_))
  refine wpAny_bind (wpAny_loadPart I.at_ ?_)
  rw [hcl]
  refine wpAny_bind ((looks_clsIn X hc).here (s := { s with toks := s.toks + 1 }) ?_)
  rw [ho.2, hd]
  dsimp only [Bool.not_true, Bool.false_eq_true, if_false]
  rw [if_neg (by decide), if_neg (show ¬ ((!true || !typeHasDict (Value.ref C)) = true) from by simp [typeHasDict]), hda]
  refine wpAny_bind (wpAny_alloc ?_)
  obtain ⟨pre, post, hpre, hpost, a, b⟩ := U.split
  have N₁ := N.push F emptyDict
  have F₁ := F.push emptyDict
  have lt : ∀ p ∈ news, p.1 < s.heap.objs.size := fun p hp => Heap.lt_size (N p hp).1
  rw [hpre] at N₁
  obtain ⟨F₂, N₂⟩ := news_upd (pre := (s.heap.objs.size, emptyDict) :: pre) (f := fun o => { o with dict := some s.heap.objs.size }) F₁ N₁ (fun p hp => by
    rcases List.mem_cons.mp hp with rfl | hp
    · exact Nat.ne_of_gt (lt _ hx)
    · exact a p hp) b rfl (by unfold Obj.isFreed; rw [hda])
  refine wpAny_bind (wpAny_update (N₁ (x, ox) (by simp)).1 ?_)
  refine wpAny_pure (a := some s.heap.objs.size) ?_
  refine ex_store (s := { s with heap := (s.heap.push emptyDict).update x fun o => { o with dict := some s.heap.objs.size }, toks := s.toks + 1 }) (es := []) (n := 0) (pre := []) F₂ N₂ rfl (fun _ h => nomatch h) (fun p hp => ?_) rfl (by simp [putL]) fun h' F' N' => h _ h' _ F' (by rw [hpost]; exact N') lt
  have : p ∈ pre ++ (x, ox) :: post ∨ p = (x, { ox with dict := some s.heap.objs.size }) := by
    rcases List.mem_append.mp hp with q | q
    · exact .inl (List.mem_append_left _ q)
    · rcases List.mem_cons.mp q with rfl | q
      · exact .inr rfl
      · exact .inl (List.mem_append_right _ (.tail _ q))
  rcases this with q | rfl
  · exact Nat.ne_of_lt (lt _ (hpre ▸ q))
  · exact Nat.ne_of_lt (lt (x, ox) hx)
end
end Mine
end E2

section E3
set_option maxHeartbeats 4000000
namespace Mine
open PySem PySem.W PySem.Spec PySem.Calls PyProof.Rows Builtin Builtin.ObjectAttr

theorem bexc_slot : Slot "Exception" "__getattribute__" "BaseException.__getattribute__" := .of (owner := "BaseException") (n := "__getattribute__") (by rw [typeLookup_type, builtinLookup_eq_fast]; kernel_rfl) (by decide +kernel) (by decide +kernel) (by decide +kernel)
    (by first | exact .inl (by decide +kernel) | exact .inr (by decide +kernel)) (by rw [isSubtype_type]; kernel_rfl)
theorem bexc_kind : builtinKind "BaseException.__getattribute__" = some .slot := by decide +kernel
theorem bexc_split : splitId "BaseException.__getattribute__" = some ("BaseException", "__getattribute__") := by decide +kernel
section
variable {prog : Program} {w : World} {A : Around} {E : Value → Shared → Prop} {s : Shared} {K : Frag} {C L x : Addr} {h₀ : Heap} {m : Str → Option Value} {news : List (Addr × Obj)} {R : Result → Shared → Prop}

theorem ex_get {ox : Obj} {dx : Addr} {es : List DictEntry} {n : Nat} {name : Str} {v : Value} {expr : Bool} {Q : Value → Shared → Prop} (F : Fr h₀ L s.heap m) (X₀ : K.In h₀) (N : News h₀ L s.heap news) (hx : (x, ox) ∈ news) (hcl : ox.cls = .ref C) (hno : notCls ox = true) (hd : ox.dict = some dx)
    (hm : (dx, dictOf es n) ∈ news)
    (hga : findIn K (.ref C) "__getattribute__" = some (some (.builtin "BaseException.__getattribute__"))) (hgt : findIn K (.ref C) "__getattr__" = some none) (hp : exOver K C = true) (ht : findIn K (.ref C) name = some none)
    (hl : getL name es = some (some v)) (hh : handedIn v = true)
    (h : Q v { s with toks := s.toks + 1 }) :
    wpAny (model prog w) A (getAttr (.ref x) name expr) Q E s := by
  have I : InstAt s.heap x ox C (some (dictOf es n)) := ⟨N.get hx, hcl, hno, by rw [hd]; exact N.get hm⟩
  have X := X₀.keeps F.keep
  obtain ⟨cd, hc, ho⟩ := any_some hp
  simp only [Bool.and_eq_true, beq_iff_eq] at ho
  have hdi : hasDictIn K C = true := by
    unfold hasDictIn
    rw [hc]
    exact ho.2
  have hf : findObj K C (some (dictOf es n)) name = some (.value v) := findObj_own hdi ht rfl hl
  obtain ⟨hh', g, d, t, os⟩ := s
  have L0 := I.type (M := model prog w)
  have L1 := looks_findIn (M := model prog w) X hga
  have L2 := looks_findIn (M := model prog w) X hgt
  have L3 := looks_find (M := model prog w) X I hf
  have sub : Looks (model prog w) hh' (isInstance (.ref x) (.type "BaseException")) true := I.type.andThen (looks_mroIn X (by unfold mroIn; rw [hc, Option.bind_some, ho.1]; rfl))
  have hx0 : (expr && onTheHeap (Value.builtin "BaseException.__getattribute__")) = false := by cases expr <;> rfl
  have hx2 : (Value.builtin "BaseException.__getattribute__" == Value.builtin "object.__getattribute__") = false := by decide +kernel
  have f3 := bexc_slot.bind (.ref x)
  unfold getAttr getAttrBy
  refine wpAny_bind (wpAny_mkText (wpAny_holding (wpAny_bind (L0.at (wpAny_bind (L1.at ?_))))))
  dsimp only
  rw [hx2, Bool.and_false, if_neg (by decide)]
  unfold getAttrByItsOwn hookBefore callGetattribute
  rw [if_pos (show onTheHeap (Value.ref C) = true from rfl), hx0, if_neg (by decide)]
  refine wpAny_bind (L2.at (wpAny_bind (wpAny_attempt (wpAny_holding ?_))))
  unfold boundAndCalled
  rw [f3]
  refine wpAny_bind (wpAny_pure ?_)
  refine wpAny_call ?_
  refine codeAny_call_builtin bexc_slot.plain PySem.F.entry_bexc_ga (@check_slot (model prog w) _ _ _ "BaseException.__getattribute__" "BaseException" "__getattribute__" (.ref x) [.str name t] [] _ bexc_kind bexc_split sub (PySem.F.args_bexc_ga _ _) ?_)
  unfold Builtin.«object.__getattribute__»
  refine wpAny_bind (wpAny_pure ?_)
  dsimp only
  refine wpAny_bind (wpAny_pure (wpAny_bind (L0.at (wpAny_bind (L3.at ?_)))))
  refine wpAny_pure ?_
  show wpAny _ _ (handedOut v) _ _ _
  rw [handedOut_of hh]; exact wpAny_pure h
end
end Mine
end E3

section E4
set_option maxHeartbeats 4000000
namespace Mine
open PySem PySem.W PySem.Spec PySem.Calls PyProof.Rows

def ExUp (K : Frag) (C : Addr) (E : Value → Shared → Prop) (v : Value) (s₁ : Shared) : Prop :=
  ∃ e ox vs, v = .ref e ∧ s₁.heap.get? e = some ox ∧ ox.cls = .ref C ∧ ox.data = .fields vs ∧ vs[1]? = some .none ∧ K.In s₁.heap ∧ E (.ref e) s₁
theorem exUp_of {K : Frag} {C L e : Addr} {h₀ : Heap} {m : Str → Option Value} {news : List (Addr × Obj)} {E : Value → Shared → Prop} {s : Shared} {ox : Obj} {vs : Array Value} (F : Fr h₀ L s.heap m) (X₀ : K.In h₀) (N : News h₀ L s.heap news) (hx : (e, ox) ∈ news)
    (hcl : ox.cls = .ref C) (hd : ox.data = .fields vs) (h1 : vs[1]? = some .none) (hE : E (.ref e) s) : ExUp K C E (.ref e) s := ⟨e, ox, vs, rfl, N.get hx, hcl, hd, h1, X₀.keeps F.keep, hE⟩

theorem ex_raise {K : Frag} {C : Addr} {h₀ : Heap} {x : Expr} {pos : Pos} {env : Env} {M : Model} {A : Around} {E : Value → Shared → Prop} {s : Shared} {Q : Flow → Shared → Prop} (_X₀ : K.In h₀) (hh : A.handled = none) (hb : mroIn K C (.type "BaseException") = some true) (ht : typeIn K (.ref C) = some (.type "type"))
    (h : wpAny M A (eval x env) (ExUp K C E) E s) : wpAny M A (exec (.Raise (some x) none pos) env) Q E s := by
  show wpAny M A (do standAt pos; raiseStmt env (some (do let v ← eval x env; standAt pos; pure v)) none) Q E s
  refine wpAny_bind (wpAny_standAt ?_)
  unfold raiseStmt
  dsimp only
  refine wpAny_bind (wpAny_bind (wpAny_mono h (fun v s₁ h₁ => wpAny_bind (wpAny_standAt (wpAny_pure ?_))) fun _ _ x => x))
  obtain ⟨a, ob, vs, rfl, ha, hcls, hd, h1, X, hE⟩ := h₁
  have T : Looks M s₁.heap (typeOf (.ref a)) (.ref C) := hcls ▸ (Looks.ld ha).andThen .now
  have hnt : ∀ {Q' : Bool → Shared → Prop}, Q' false s₁ → wpAny M A (isType (.ref a)) Q' E s₁ := by
    intro Q' hq
    simp only [isType, loadHead]
    refine wpAny_bind (wpAny_loadPart ha ?_)
    rw [hd]; exact wpAny_pure hq
  refine wpAny_bind (wpAny_pure ?_)
  dsimp only
  refine wpAny_bind (wpAny_holding ?_)
  unfold excFromValue isExcClass
  refine wpAny_bind (wpAny_bind (hnt ?_))
  simp only [Bool.false_eq_true, if_false]
  refine wpAny_pure ?_
  simp only [Bool.false_eq_true, if_false]
  have I : Looks M s₁.heap (isInstance (.ref a) (.type "BaseException")) true := T.andThen (looks_mroIn X hb)
  refine wpAny_bind (I.here ?_)
  simp only [if_true]
  refine wpAny_pure ?_
  refine wpAny_bind (hnt ?_)
  simp only [Bool.false_eq_true, if_false]
  unfold raisedInstance
  refine wpAny_bind (wpAny_bind (T.here (wpAny_bind ((looks_typeIn X ht).here ?_))))
  rw [if_pos (by decide)]
  refine wpAny_pure ?_
  unfold setFlight raiseNew
  refine wpAny_bind (wpAny_bind (wpAny_field ha hd h1 ?_))
  rw [if_neg (by decide)]
  refine wpAny_pure (wpAny_bind (wpAny_handled ?_))
  rw [hh]
  first
    | exact wpAny_throw hE
    | exact wpAny_bind (wpAny_pure (wpAny_throw hE))

-- what a tree without calls leaves: every object's own dict
section
open Sem (wp)
noncomputable def KD {α : Type} : Sem α → Prop
  | .pure _ | .raise _ | .unsupported _ | .finish _ => True
  | .rule _ k => KD (k ())
  | .at _ k => KD (k ())
  | .load _ _ k => ∀ o, KD (k o)
  | .update _ _ f k => (∀ o, (f o).dict = o.dict) ∧ KD (k ())
  | .loadIfAlive _ k => ∀ o, KD (k o)
  | .point _ k => KD (k ())
  | .register _ k => KD (k ())
  | .alloc _ k => ∀ a, KD (k a)
  | .fresh k => ∀ t, KD (k t)
  | .ask k => ∀ x, KD (k x)
  | .handled _ k => ∀ x, KD (k x)
  | .stack k => ∀ x, KD (k x)
  | _ => False
theorem KD.bind {α β : Type} {t : Sem α} {k : α → Sem β} (h : KD t) (hk : ∀ a, KD (k a)) : KD (t >>= k) := by
  show KD (Sem.bind t k)
  induction t with
  | pure a => exact hk a
  | raise | unsupported | finish => trivial
  | rule _ k ih => exact ih () h
  | «at» _ k ih => exact ih () h
  | load _ _ k ih => exact fun o => ih o (h o)
  | update _ _ f k ih => exact ⟨h.1, ih () h.2⟩
  | loadIfAlive _ k ih => exact fun o => ih o (h o)
  | point _ k ih => exact ih () h
  | register _ k ih => exact ih () h
  | alloc _ k ih => exact fun o => ih o (h o)
  | fresh k ih => exact fun o => ih o (h o)
  | ask k ih => exact fun o => ih o (h o)
  | handled _ k ih => exact fun o => ih o (h o)
  | stack k ih => exact fun o => ih o (h o)
  | _ => exact h.elim

/-- the dict of what lies at e -/
def DictAt (h : Heap) (e : Addr) (de : Option Addr) : Prop := ∃ o, h.objs[e]? = some o ∧ o.dict = de
theorem DictAt.of {h : Heap} {e : Addr} {o : Obj} (x : h.get? e = some o) : DictAt h e o.dict := ⟨o, (Heap.get?_some_iff.mp x).1, rfl⟩
theorem DictAt.obj {h : Heap} {e : Addr} {o : Obj} {de : Option Addr} (x : DictAt h e de) (g : h.get? e = some o) : o.dict = de := by
  obtain ⟨o', h1, h2⟩ := x
  have := (Heap.get?_some_iff.mp g).1
  rw [h1] at this; cases this; exact h2
theorem DictAt.push {h : Heap} {e : Addr} {de : Option Addr} (x : DictAt h e de) (o : Obj) : DictAt (h.push o) e de := by
  obtain ⟨o', h1, h2⟩ := x
  refine ⟨o', ?_, h2⟩
  have := (Array.getElem?_eq_some_iff.mp h1).1
  show (h.objs.push o)[e]? = _
  rw [Array.getElem?_push_lt this]
  rw [Array.getElem?_eq_getElem this] at h1
  exact h1
theorem DictAt.keeps {h h' : Heap} {e : Addr} {o : Obj} {de : Option Addr} (x : DictAt h e de) (g : h.get? e = some o) (k : ∀ b o, h.get? b = some o → h'.get? b = some o) : DictAt h' e de := x.obj g ▸ .of (k _ _ g)
theorem DictAt.update {h : Heap} {e a : Addr} {de : Option Addr} (x : DictAt h e de) {f : Obj → Obj} (hf : ∀ o, (f o).dict = o.dict) : DictAt (h.update a f) e de := by
  obtain ⟨o', h1, h2⟩ := x
  have z : (h.update a f).objs[e]? = if a = e then h.objs[e]?.map f else h.objs[e]? := by
    obtain ⟨objs, l⟩ := h
    exact Array.getElem?_modify
  by_cases q : a = e
  · exact ⟨f o', by rw [z, if_pos q, h1]; rfl, (hf o').trans h2⟩
  · exact ⟨o', by rw [z, if_neg q]; exact h1, h2⟩
theorem kd_wp {α : Type} {M : Model} {Γ : PySem.Ctx} {e : Addr} {de : Option Addr} (t : Sem α) : ∀ {Q : α → Pos → Shared → Prop} {E : Value → Pos → Shared → Prop} {p : Pos} {s : Shared}, KD t → DictAt s.heap e de → wp M Γ t Q E p s →
    wp M Γ t (fun a p s' => Q a p s' ∧ DictAt s'.heap e de) (fun x p s' => E x p s' ∧ DictAt s'.heap e de) p s := by
  induction t with
  | pure a => intro Q E p s _ d h; rw [wp] at h ⊢; exact ⟨h, d⟩
  | raise a => intro Q E p s _ d h; rw [wp] at h ⊢; exact ⟨h, d⟩
  | unsupported => intro Q E p s _ d h; rw [wp] at h; exact h.elim
  | finish => intro Q E p s _ d h; rw [wp] at h; exact h.elim
  | rule _ k ih => intro Q E p s q d h; rw [wp] at h ⊢; exact ih () q d h
  | «at» _ k ih => intro Q E p s q d h; rw [wp] at h ⊢; exact ih () q d h
  | load _ _ k ih => intro Q E p s q d h; rw [wp] at h ⊢; obtain ⟨o, ho, h⟩ := h; exact ⟨o, ho, ih o (q o) d h⟩
  | update a _ f k ih => intro Q E p s q d h; rw [wp] at h ⊢; exact ⟨h.1, ih () q.2 (d.update q.1) h.2⟩
  | loadIfAlive _ k ih => intro Q E p s q d h; rw [wp] at h ⊢; exact ih _ (q _) d h
  | point _ k ih => intro Q E p s q d h; rw [wp] at h ⊢; exact ih () q d h
  | register _ k ih => intro Q E p s q d h; rw [wp] at h; exact h.elim
  | alloc _ k ih => intro Q E p s q d h; rw [wp] at h ⊢; exact ih _ (q _) (d.push _) h
  | fresh k ih => intro Q E p s q d h; rw [wp] at h ⊢; exact ih _ (q _) d h
  | ask k ih => intro Q E p s q d h; rw [wp] at h ⊢; exact ih _ (q _) d h
  | handled _ k ih => intro Q E p s q d h; rw [wp] at h ⊢; exact ih _ (q _) d h
  | stack k ih => intro Q E p s q d h; rw [wp] at h ⊢; exact ih _ (q _) d h
  | _ => intro Q E p s q d h; exact q.elim
end
theorem kd_any {α : Type} {M : Model} {A : Around} {t : Sem α} {Q : α → Shared → Prop} {E : Value → Shared → Prop} {s : Shared} {e : Addr} {de : Option Addr} (k : KD t) (d : DictAt s.heap e de) (h : wpAny M A t Q E s) :
    wpAny M A t (fun a s' => Q a s' ∧ DictAt s'.heap e de) (fun x s' => E x s' ∧ DictAt s'.heap e de) s := fun Γ p hΓ => kd_wp t k d (h Γ p hΓ)

theorem kd_fieldsOf (v : Value) : KD (fieldsOf v) := by
  unfold fieldsOf
  split
  · refine KD.bind (fun _ => trivial) fun o => ?_
    split <;> trivial
  · trivial
theorem kd_field (v : Value) (i : Nat) : KD (field v i) := by
  unfold field
  refine KD.bind (kd_fieldsOf v) fun o => ?_
  split <;> trivial
theorem dict_mapFields (f : Array Value → Array Value) (o : Obj) : (Obj.mapFields f o).dict = o.dict := by
  obtain ⟨c, d, dt, sl⟩ := o
  cases dt <;> rfl
theorem kd_setField (v : Value) (i : Nat) (x : Value) : KD (setField v i x) := by
  unfold setField
  split
  · unfold updateField
    refine KD.bind (fun _ => trivial) fun o => ?_
    split
    · split
      · exact ⟨dict_mapFields _, trivial⟩
      · trivial
    · trivial
  · trivial
theorem kd_setFlight (v : Value) (f : Option Addr) : KD (setFlight v f) := by
  unfold setFlight
  refine KD.bind (kd_field _ _) fun tb => ?_
  split
  · exact kd_setField _ _ _
  · trivial
theorem kd_newEntry (a b c d e : Value) (pl : List Value) : KD (EntryCells.newEntry a b c d e pl) := by
  have z : ∀ vs : List Value, KD (newFields "traceback" vs) := fun vs => by
    unfold newFields newObj
    dsimp only
    split
    · trivial
    · unfold newObjAsIs
      exact fun a => trivial
  unfold EntryCells.newEntry
  exact z _
theorem kd_stack : KD stack := fun _ => trivial
theorem kd_entryPlaceOf (f : Addr) (b : Bool) : KD (entryPlaceOf f b) := by
  unfold entryPlaceOf
  refine KD.bind kd_stack fun acts => ?_
  split <;> trivial
theorem kd_behindIsImport (env : Env) (o : List Env) : KD (behindIsImport env o) := by
  unfold behindIsImport
  split
  · trivial
  · split
    · trivial
    · exact KD.bind (kd_field _ _) fun _ => trivial
theorem kd_keptBack (env : Env) (i : Bool) (o : List Env) : KD (keptBack env i o) := by
  unfold keptBack
  split
  · split
    · trivial
    · refine KD.bind ?_ fun _ => ?_
      · exact KD.bind kd_stack fun _ => trivial
      · trivial
  · trivial
theorem kd_readyFrames : ∀ l : List Env, KD (readyFrames l)
  | [] => trivial
  | env :: outer => by
    unfold readyFrames
    split
    · refine KD.bind (fun _ => trivial) fun o => ?_
      split
      · trivial
      · refine KD.bind (kd_behindIsImport _ _) fun _ => KD.bind (kd_keptBack _ _ _) fun _ => ?_
        exact KD.bind (t := PySem.update _ _) ⟨fun _ => rfl, trivial⟩ fun _ => kd_readyFrames outer
    · trivial
theorem kd_frameOf (env : Env) : KD (PySem.frameOf env) := by
  unfold PySem.frameOf
  refine KD.bind (KD.bind kd_stack fun _ => trivial) fun es => ?_
  refine KD.bind ?_ fun r => ?_
  · unfold frameObject
    split
    · trivial
    · exact KD.bind (kd_readyFrames _) fun _ => trivial
  · split <;> trivial
theorem kd_noteFrame (v : Value) (env : Env) : KD (noteFrame v env) := by
  unfold noteFrame
  split
  · refine KD.bind (kd_field _ _) fun hd => ?_
    have tail : ∀ f b, KD (do setField v 1 (← EntryCells.newEntry hd (← PySem.frameOf env) .none (rawInt f) .none (← entryPlaceOf f b))) := fun f b => by
      refine KD.bind (kd_frameOf _) fun _ => KD.bind (kd_entryPlaceOf _ _) fun _ => KD.bind (kd_newEntry _ _ _ _ _ _) fun _ => kd_setField _ _ _
    dsimp only
    split
    · refine KD.bind (kd_field _ _) fun _ => ?_
      split
      · trivial
      · exact KD.bind (kd_setField _ _ _) fun _ => tail _ _
    · exact tail _ _
  · trivial
theorem kd_leaving (env : Env) (v : Value) : KD (leaving env v) := by
  unfold leaving
  exact KD.bind (kd_noteFrame _ _) fun _ => kd_setFlight _ _
end Mine
end E4

section E5
set_option maxHeartbeats 4000000
namespace Mine
open PySem PySem.W PySem.Spec PySem.Calls PyProof.Rows

def FlyD (base G : Heap) (l : List Env) (e C de : Addr) (news : List (Addr × Obj)) (h : Heap) : Prop := RaisedSN base G l e (.ref C) news h ∧ DictAt h e (some de)

theorem fr_mem {env : Env} {outer : List Env} {L b : Addr} (hf : env.frame = some L) (hm : b ∈ (env :: outer).filterMap (·.frame)) : b = L ∨ b ∈ outer.filterMap (·.frame) := by
  obtain ⟨env', he, hb⟩ := List.mem_filterMap.mp hm
  rcases List.mem_cons.mp he with rfl | he
  · rw [hf] at hb; exact .inl (Option.some.inj hb).symm
  · exact .inr (List.mem_filterMap.mpr ⟨env', he, hb⟩)

section
variable {M : Model} {A : Around} {E : Value → Shared → Prop} {s' : Shared} {base g g₂ h : Heap} {outer : List Env} {L e C de : Addr} {m : Str → Option Value} {env : Env} {Q : Unit → Shared → Prop} {news newsE : List (Addr × Obj)} {ox : Obj} {vs : Array Value} {a0 : Value}

theorem leave_onD (hf : env.frame = some L) (K : Below A base outer g) (F : Fr g L g₂ m) (R : FlyD base g₂ (env :: outer) e C de news s'.heap) (hsm : g₂.UpToSlots s'.heap)
    (hQ : ∀ h', FlyD base g outer e C de news h' → g.UpToSlots h' → Q () { s' with heap := h' }) :
    wpAny M (A.deeper env) (leaving env (.ref e)) Q E s' := by
  obtain ⟨⟨B, a0, hB, hBG, hl, hfl⟩, hde⟩ := R
  refine wpAny_mono (kd_any (Q := fun (_ : Unit) (t : Shared) => ∃ h', t = { s' with heap := h' } ∧ Heap.FlyingW B outer e (.ref C) a0 h' ∧ s'.heap.UpToSlots h') (E := E) (kd_leaving env (.ref e)) hde (wpAny_leaves_onW (Around.frames_deeper K.stack) hf hfl fun h' x1 x2 =>
    ⟨h', rfl, x1, x2⟩)) (fun _ t ht => ?_) fun _ _ z => z.1
  obtain ⟨⟨h', rfl, x1, x2⟩, hd'⟩ := ht
  exact hQ h' ⟨⟨B, a0, hB, fun b o q nm => hBG b o (F.keep b o q) (fun hm => by
      rcases fr_mem hf hm with z | z
      · rw [z, kts_self F] at q
        cases q
      · exact nm z), fun q hq => ⟨(hl q hq).1, kts_none F.keep (hl q hq).2.1, (hl q hq).2.2⟩, x1⟩, hd'⟩ ((Heap.UpToSlots.of_keeps F.keep).trans (hsm.trans x2))

theorem leave_firstD (hf : env.frame = some L) (hk : env.scope.kind = .function) (K : Below A base outer g) (F : Fr g L s'.heap m) (N : News g L s'.heap news) (hx : (e, ox) ∈ news) (hcl : ox.cls = .ref C) (hd : ox.data = .fields vs) (h0 : vs[0]? = some a0) (h1 : vs[1]? = some .none) (hdi : ox.dict = some de)
    (hE : ∀ q ∈ newsE, q ∈ news ∧ q.1 ≠ e)
    (hQ : ∀ h', FlyD base g outer e C de newsE h' → g.UpToSlots h' → Q () { s' with heap := h' }) :
    wpAny M (A.deeper env) (leaving env (.ref e)) Q E s' := by
  have K' := pushX K F hf hk
  have he := N.get hx
  have hin : ∀ env' ∈ (env :: outer), ∀ b, env'.frame = some b → b ∈ e :: (env :: outer).filterMap (·.frame) := fun env' he b hb => .tail _ (List.mem_filterMap.mpr ⟨env', he, hb⟩)
  have st : base.StaysIn (hideAll s'.heap (e :: (env :: outer).filterMap (·.frame))) := fun b o q => hideAll_get _ (K'.stays b o q) fun hm => by
    rcases List.mem_cons.mp hm with rfl | hm
    · have := K.stays _ _ q; rw [(N _ hx).2.2] at this; cases this
    · rw [(K'.frames.mem hm).1] at q; cases q
  have sg : ∀ b o, g.get? b = some o → b ∉ outer.filterMap (·.frame) → (hideAll s'.heap (e :: (env :: outer).filterMap (·.frame))).get? b = some o := fun b o q nm => hideAll_get _ (F.keep b o q) fun hm => by
    rcases List.mem_cons.mp hm with rfl | hm
    · rw [(N _ hx).2.2] at q; cases q
    · rcases fr_mem hf hm with z | z
      · rw [z, kts_self F] at q
        cases q
      · exact nm z
  have hl : ∀ q ∈ newsE, (hideAll s'.heap (e :: (env :: outer).filterMap (·.frame))).get? q.1 = some q.2 ∧ g.get? q.1 = none ∧ base.get? q.1 = none := fun q hq => by
    have Nq := N q (hE q hq).1
    refine ⟨hideAll_get _ Nq.1 fun hm => ?_, Nq.2.2, fresh_of_stays K.stays Nq.2.2⟩
    rcases List.mem_cons.mp hm with z | hm
    · exact (hE q hq).2 z
    · rcases fr_mem hf hm with z | z
      · exact Nq.2.1 z
      · obtain ⟨o, ho, _⟩ := (K.frames.mem z).2
        rw [Nq.2.2] at ho; cases ho
  have hen : (hideAll s'.heap (e :: (env :: outer).filterMap (·.frame))).get? e = none := hideAll_none _ (.head _)
  refine wpAny_mono (kd_any (Q := fun (_ : Unit) (t : Shared) => ∃ h', t = { s' with heap := h' } ∧ Heap.LeftW (hideAll s'.heap (e :: (env :: outer).filterMap (·.frame))) (env :: outer) e ox.cls a0 s'.heap h') (E := E) (kd_leaving env (.ref e)) (hdi ▸ DictAt.of he) (wpAny_leaving_firstW (a0 := a0) K'.stack (funFrames_hide K'.frames hin) hf he (fun b o hb => of_hideAll _ hb) hen hd h1 h0 fun h' hL =>
    ⟨h', rfl, hL⟩)) (fun _ t ht => ?_) fun _ _ z => z.1
  obtain ⟨⟨h', rfl, k1, ⟨_, _, k2⟩, k3, k4⟩, hd'⟩ := ht
  exact hQ h' ⟨⟨_, a0, st, sg, hl, k1, hen, k2, by rw [← hcl]; exact k3⟩, hd'⟩ ((Heap.UpToSlots.of_keeps F.keep).trans k4)
end

section
variable {prog : Program} {w : World} {A₀ : Around} {E : Value → Shared → Prop} {s' : Shared} {base g g₀ G : Heap} {outer : List Env} {L a e C de : Addr} {m : Str → Option Value} {name : Str} {scope : Scope} {cd : Value}
  {n : Str} {b₀ : Stmt} {suite : List Stmt} {pos : Pos} {rest hs : List ExceptHandler} {Q : Flow → Shared → Prop} {news : List (Addr × Obj)} {KF : Frag} {tt : Expr} {nm : Option Str} {body : List Stmt}
  {p : Program} {loose : List Str} {mean : ExcName → Option Value} {mg mb : Str → Option Value}

theorem look_D (R : FlyD base G (envOf name scope L a cd :: outer) e C de news s'.heap) (K : Below A₀ base outer g) (hsm : G.UpToSlots s'.heap)
    (k : ∀ h', FlyD base G (envOf name scope L a cd :: outer) e C de news h' → G.UpToSlots h' → wpAny (model prog w) (A₀.deeper (envOf name scope L a cd)) (handleBy (.ref e) (envOf name scope L a cd) hs) Q E { s' with heap := h' }) :
    wpAny (model prog w) (A₀.deeper (envOf name scope L a cd)) (noteFrame (.ref e) (envOf name scope L a cd))
      (fun _ s₂ => wpAny (model prog w) (A₀.deeper (envOf name scope L a cd)) (setFlight (.ref e) none) (fun _ s₃ =>
        wpAny (model prog w) (A₀.deeper (envOf name scope L a cd)) (handleBy (.ref e) (envOf name scope L a cd) hs) Q E s₃) E s₂) E s' := by
  obtain ⟨⟨B, a0, hB, hBG, hl, hfl⟩, hde⟩ := R
  refine wpAny_mono (kd_any (Q := fun (_ : Unit) (t : Shared) => ∃ h', t = { s' with heap := h' } ∧ Heap.HeldW B (envOf name scope L a cd :: outer) e (.ref C) a0 L h' ∧ s'.heap.UpToSlots h') (E := E) (kd_noteFrame (.ref e) _) hde (wpAny_looks_onW (Around.frames_deeper K.stack) rfl hfl fun h₄ hheld₄ hsm₄ =>
    ⟨h₄, rfl, hheld₄, hsm₄⟩)) (fun _ t ht => ?_) fun _ _ z => z.1
  obtain ⟨⟨h₄, rfl, hheld₄, hsm₄⟩, hd₄⟩ := ht
  refine wpAny_mono (kd_any (Q := fun (_ : Unit) (t : Shared) => ∃ h', t = { s' with heap := h' } ∧ Heap.FlyingW B (envOf name scope L a cd :: outer) e (.ref C) a0 h' ∧ h₄.UpToSlots h') (E := E) (s := { s' with heap := h₄ }) (kd_setFlight (.ref e) none) hd₄ (wpAny_landsW hheld₄ fun h₅ hheld hsm₅' =>
    ⟨h₅, rfl, hheld, hsm₅'⟩)) (fun _ t ht => ?_) fun _ _ z => z.1
  obtain ⟨⟨h₅, rfl, hheld, hsm₅'⟩, hd₅⟩ := ht
  exact k h₅ ⟨⟨B, a0, hB, hBG, hl, hheld⟩, hd₅⟩ (hsm.trans (hsm₄.trans hsm₅'))

theorem FlyD.get (R : FlyD base G (envOf name scope L a cd :: outer) e C de news s'.heap) : ∃ o, s'.heap.get? e = some o := by
  obtain ⟨⟨B, a0, _, _, _, hfl⟩, _⟩ := R
  obtain ⟨o, ho, _⟩ := hfl.there
  exact ⟨o, ho⟩

theorem pass_D (R : FlyD base G (envOf name scope L a cd :: outer) e C de news s'.heap) (F : Fr g L G m) (K : Below A₀ base outer g) (hsm : G.UpToSlots s'.heap) (XB : KF.In base) (TB : Top p loose mean mg mb base)
    (T : KtsTest prog w KF p loose mg mb name scope L a cd (.ref C) tt false)
    (k : ∀ h', FlyD base G (envOf name scope L a cd :: outer) e C de news h' → G.UpToSlots h' → wpAny (model prog w) (A₀.deeper (envOf name scope L a cd)) (handleBy (.ref e) (envOf name scope L a cd) rest) Q E { s' with heap := h' }) :
    wpAny (model prog w) (A₀.deeper (envOf name scope L a cd)) (handleBy (.ref e) (envOf name scope L a cd) (.ExceptHandler (some tt) nm body pos :: rest)) Q E s' := by
  obtain ⟨o, ho⟩ := R.get
  obtain ⟨R, hde⟩ := R
  have R' := R
  obtain ⟨B, a0, hB, hBG, hl, hfl⟩ := R'
  obtain ⟨g₅, T₅, F₅, K₅⟩ := kts_ground K F hBG hfl.1 hsm
  refine wpAny_handleBy_cons (codeAny_handlers_test (T _ _ _ _ g₅ e m F₅ (XB.keeps K₅.stays) (topRead_of (TB.keeps K₅.stays)) R.ty fun h' kp => ?_)) (by intro q; cases q)
  exact k h' ⟨R.keeps kp, hde.keeps ho kp⟩ (hsm.trans (Heap.UpToSlots.of_keeps kp))

theorem hit_D (R : FlyD base G (envOf name scope L a cd :: outer) e C de news s'.heap) (F : Fr g L G m) (K : Below A₀ base outer g) (hsm : G.UpToSlots s'.heap) (XB : KF.In base) (TB : Top p loose mean mg mb base)
    (D : KtsDicts (outer.filterMap (·.frame)) g) (T0 : KtsTurn (outer.filterMap (·.frame)) g₀ g) (T : KtsTest prog w KF p loose mg mb name scope L a cd (.ref C) tt true)
    (k : ∀ h' g' oe tk, KtsTurn (outer.filterMap (·.frame)) g₀ g' → Fr g' L h' (fun y => if y = n then some (.ref e) else m y) → News g' L h' ((e, oe) :: news) → oe.cls = .ref C → notCls oe = true → oe.dict = some de → Below A₀ base outer g' → KF.In g' → Top p loose mean mg mb g' → KtsDicts (outer.filterMap (·.frame)) g' →
      wpAny (model prog w) ((A₀.deeper (envOf name scope L a cd)).mark (some (.ref e))) (execs (b₀ :: suite) (envOf name scope L a cd))
        (fun f s₄ => wpAny (model prog w) (A₀.deeper (envOf name scope L a cd)) (do bindName (envOf name scope L a cd) n .none; unbindBehindTheSuite (envOf name scope L a cd) n pos) (fun _ s₅ => Q f s₅) E s₄)
        (AsSuiteRaised (model prog w) ((A₀.deeper (envOf name scope L a cd)).mark (some (.ref e))) (envOf name scope L a cd) n pos (notedBy (model prog w) ((A₀.deeper (envOf name scope L a cd)).mark (some (.ref e))) (envOf name scope L a cd) (cameBackBy (model prog w) (A₀.deeper (envOf name scope L a cd)) (envOf name scope L a cd) E)))
        { s' with heap := h', toks := tk })
    (hk : scope.kind = .function := by rfl) (hlo : (envOf name scope L a cd).kindOf n = some .local := by rfl) :
    wpAny (model prog w) (A₀.deeper (envOf name scope L a cd)) (handleBy (.ref e) (envOf name scope L a cd) (.ExceptHandler (some tt) (some n) (b₀ :: suite) pos :: rest)) Q E s' := by
  obtain ⟨o, ho⟩ := R.get
  obtain ⟨R, hde⟩ := R
  have R' := R
  obtain ⟨B₁, a₁, _, hBG₁, _, hfl₁⟩ := R'
  obtain ⟨g₅, T₅, F₅, K₅⟩ := kts_ground K F hBG₁ hfl₁.1 hsm
  refine wpAny_handleBy_cons (codeAny_handlers_test (T _ _ _ _ g₅ e m F₅ (XB.keeps K₅.stays) (topRead_of (TB.keeps K₅.stays)) R.ty fun h₅ kp => ?_)) (by intro q; cases q)
  have hsm₅ : G.UpToSlots h₅ := hsm.trans (Heap.UpToSlots.of_keeps kp)
  have hde₅ := hde.keeps ho kp
  obtain ⟨B, a0, hB, hBG, hl, hheld⟩ := R.keeps kp
  have hL : B.get? L = none := by
    obtain ⟨_, ⟨L', _, hf, hn', _⟩, _⟩ := hheld.2.2.1
    obtain rfl : L = L' := Option.some.inj hf
    exact hn'
  refine codeAny_handlers_suite_as ?_
  refine wpAny_mono (kd_any (Q := fun (_ : Unit) (t : Shared) => ∃ h', t = { s' with heap := h' } ∧ Heap.FlyingW B (envOf name scope L a cd :: outer) e (.ref C) a0 h' ∧ h₅.UpToSlots h') (s := { s' with heap := h₅ }) (kd_setFlight (.ref e) none) hde₅ (lands_againW (E := fun _ _ => False) hheld fun h₆ hfl₆ hsm₆ =>
    ⟨h₆, rfl, hfl₆, hsm₆⟩)) (fun _ t ht => ?_) fun _ _ z => z.1.elim
  obtain ⟨⟨h₆, rfl, hfl₆, hsm₆⟩, hd₆⟩ := ht
  obtain ⟨g₆, T₆, F₆, K₆⟩ := kts_ground K F hBG hfl₆.1 (hsm₅.trans hsm₆)
  obtain ⟨oe, ws, hoe, hoec, hoed, hoe0⟩ := hfl₆.first
  have ne₆ : g₆.get? e = none := T₆.none_ _ (kts_fresh F hBG hfl₆.2.1 fun o ho m => by
    obtain ⟨_, o', ho', hd⟩ := K.frames.mem m
    rw [ho] at ho'
    cases ho'
    obtain ⟨sl, hs⟩ := (hsm₅.trans hsm₆) _ _ (F.keep _ _ ho) hd
    rw [hoe] at hs
    cases hs
    exact hd _ hoed)
  have N₆ := News.more F₆ News.nil hoe (fun es n q => by rw [hoed] at q; cases q) ne₆
  have Nl : News g₆ L h₆ news := fun q hq => ⟨hfl₆.1 _ _ (hl q hq).1, (fun z => by have := (hl q hq).1; rw [z, hL] at this; cases this), T₆.none_ _ (kts_none F.keep (hl q hq).2.1)⟩
  have X₆ : KF.In g₆ := XB.keeps K₆.stays
  have P₆ : Top p loose mean mg mb g₆ := TB.keeps K₆.stays
  have D₆ : KtsDicts (outer.filterMap (·.frame)) g₆ := D.turn T₆
  refine stN F₆ (news := [(e, oe)] ++ news) (fun q hq => (List.mem_append.mp hq).elim (N₆ q) (Nl q)) (fun h₇ F₇ N₇ => ?_) hk hlo
  exact k h₇ g₆ oe _ (T0.trans T₆) F₇ N₇ hoec (by unfold notCls; rw [hoed]) (hd₆.obj hoe) K₆ X₆ P₆ D₆
end
end Mine
end E5

section E6
set_option maxHeartbeats 4000000
namespace Mine
open PySem PySem.W PySem.Spec PySem.Calls PyProof.Rows

section
variable {prog : Program} {w : World} {A₀ A : Around} {s : Shared} {base h₀ g₀ : Heap} {outer : List Env} {L a : Addr} {m : Str → Option Value} {env : Env} {news : List (Addr × Obj)} {K : Frag} {p : Program} {loose : List Str} {mean : ExcName → Option Value} {mg mb : Str → Option Value}
    {R : Result → Shared → Prop} {name qual : Str} {params : Arguments} {body : List Stmt} {scope : Scope} {dV kV doc pm cdv ct oc : Value} {an od : Option Addr} {osl : Array (Option Value)} {f : Addr} {args : Args} {binds : List (Str × Value)}

/-- behind a call whose frames below have turned: the caller's facts again -/
theorem turn_back (B : Below A₀ base outer h₀) (F : Fr h₀ L s.heap m) (N : News h₀ L s.heap news) (XB : K.In base) (TB : Top p loose mean mg mb base) (D : KtsDicts (outer.filterMap (·.frame)) h₀) (T0 : KtsTurn (outer.filterMap (·.frame)) g₀ h₀)
    (hA : A.frames = some (env :: outer)) (hf : env.frame = some L) (hke : env.scope.kind = .function) :
    KtsDicts ((env :: outer).filterMap (·.frame)) (hideAll s.heap (news.map (·.1))) ∧
      ∀ v s', LeaveS ((env :: outer).filterMap (·.frame)) A₀ base outer K p loose mean mg mb g₀ h₀ L m (hideAll s.heap (news.map (·.1))) R v s' → R (.ok (.ret v)) s' := by
  have nm : ∀ b o, h₀.get? b = some o → b ∉ news.map (·.1) := fun b o e q => by
    obtain ⟨p, hp, rfl⟩ := List.mem_map.mp q
    rw [(N p hp).2.2] at e; cases e
  have st : h₀.StaysIn (hideAll s.heap (news.map (·.1))) := fun b o e => hideAll_get _ (F.keep b o e) (nm b o e)
  obtain ⟨oL, es, ep, hL, hLd, hLk, hLf⟩ := F.ns
  have nL : L ∉ news.map (·.1) := fun q => by
    obtain ⟨p, hp, e⟩ := List.mem_map.mp q
    exact (N p hp).2.1 e
  have hLg := hideAll_get (news.map (·.1)) hL nL
  have nL₀ : h₀.get? L = none := kts_self F
  refine ⟨fun b hb => ?_, fun v s' hl => ?_⟩
  · rcases fr_mem hf hb with rfl | hb
    · exact ⟨oL, es, ep, hLg, hLd⟩
    · obtain ⟨o, es', n', ho', hd'⟩ := D b hb
      exact ⟨o, es', n', st b o ho', hd'⟩
  rcases hl with ⟨L', m', news', F', N', k⟩ | ⟨g', L', m', news', T', F', N', k⟩
  · refine k ⟨⟨oL, es, ep, F'.keep _ _ hLg, hLd, hLk, hLf⟩, fun b o e => F'.keep b o (st b o e), F.above⟩ fun p hp => ⟨(N' p hp).1, fun q => ?_, ?_⟩
    · have := (N' p hp).2.2; rw [q, hLg] at this; cases this
    · cases q : h₀.get? p.1 with
      | none => rfl
      | some o => have := (N' p hp).2.2; rw [st _ _ q] at this; cases this
  obtain ⟨sl, hs⟩ := T'.up hLg
  obtain ⟨T₁, S₁⟩ := kts_turn_at (h := s'.heap) (fs := outer.filterMap (·.frame)) (g := h₀)
    (fun b hb => by
      obtain ⟨_, o, ho', _⟩ := B.frames.mem hb
      exact ⟨o, ho'⟩)
    (fun b o e nmem => F'.keep b o (T'.other b o (st b o e) (fun q => by
      rcases fr_mem hf q with z | z
      · rw [z, nL₀] at e
        cases e
      · exact nmem z)))
    (fun b o e hm => by
      obtain ⟨sl', hs'⟩ := T'.up (st b o e)
      exact ⟨sl', F'.keep _ _ hs'⟩)
  have B₃ : Below A₀ base outer (ktsHeap s'.heap (outer.filterMap (·.frame)) h₀) := ⟨B.stack, fun b o e => T₁.other b o (B.stays b o e) (fun hm => by
    rw [(B.frames.mem hm).1] at e
    cases e), B.frames.of_keeps fun b o e _ => by
    obtain ⟨sl', hs'⟩ := T₁.up e
    exact ⟨_, hs', rfl⟩⟩
  refine k _ (T0.trans T₁) ⟨⟨_, es, ep, F'.keep _ _ hs, hLd, hLk, hLf⟩, S₁, by rw [T₁.size]; exact F.above⟩ (fun p hp => ⟨(N' p hp).1, fun q => ?_, ?_⟩) B₃ (XB.keeps B₃.stays) (TB.keeps B₃.stays) (D.turn T₁)
  · have := (N' p hp).2.2; rw [q, hs] at this; cases this
  · refine T₁.none_ _ ?_
    cases q : h₀.get? p.1 with
    | none => rfl
    | some o =>
      obtain ⟨sl', hs'⟩ := T'.up (st _ _ q)
      have := (N' p hp).2.2
      rw [hs'] at this
      cases this

theorem code_T (B : Below A₀ base outer h₀) (F : Fr h₀ L s.heap m) (X₀ : K.In h₀) (N : News h₀ L s.heap news) (T : Top p loose mean mg mb h₀) (XB : K.In base) (TB : Top p loose mean mg mb base) (D : KtsDicts (outer.filterMap (·.frame)) h₀)
    (T0 : KtsTurn (outer.filterMap (·.frame)) g₀ h₀) (hA : A.frames = some (env :: outer)) (hf : env.frame = some L) (hke : env.scope.kind = .function)
    (ho : K.lookup f = some ⟨oc, od, .func (fnOf name qual params body scope dV kV doc pm an cdv ct), osl⟩) (hcd : codeIn K cdv qual = true) (hroom : A.depth < recursionLimit)
    (hbind : BindsTo s (fnOf name qual params body scope dV kV doc pm an cdv ct) args binds) (hloc : ∀ y ∈ binds, scope.names.lookup y.1 = some .local)
    (h : ∀ g L' h₁, Fr h₀ L g m → Fr g L' h₁ (fun y => binds.reverse.lookup y) → News g L' h₁ news → Below A base (env :: outer) g → K.In g → Top p loose mean mg mb g → KtsDicts ((env :: outer).filterMap (·.frame)) g → (∀ q ∈ news, q.1 < L') →
      wpAny (model prog w) (A.deeper (envOf qual scope L' f cdv)) (execs body (envOf qual scope L' f cdv))
        (fun fl s' => LeaveS ((env :: outer).filterMap (·.frame)) A₀ base outer K p loose mean mg mb g₀ h₀ L m g R (match fl with | .ret v => v | _ => .none) s')
        (fun e s' => wpAny (model prog w) (A.deeper (envOf qual scope L' f cdv)) (leaving (envOf qual scope L' f cdv) e) (fun _ s'' => R (.error e) s'') (fun e' s'' => R (.error e') s'') s')
        { s with heap := h₁, toks := s.toks + binds.length })
    (hco : scope.isCoroutine = false) (hgen : scope.isGenerator = false) (hk : scope.kind = .function)
    (hcell : ∀ x ∈ scope.names, x.2 ≠ .cell) : codeAny (model prog w) A (.call (.ref f) args) R s := by
  have X := X₀.keeps F.keep
  obtain ⟨FG, BG, st, -⟩ := groundX (R := R) B F N hA hf hke
  obtain ⟨DG, lv⟩ := turn_back (R := R) B F N XB TB D T0 hA hf hke
  refine codeAny_call_def (fd := fnOf name qual params body scope dV kV doc pm an cdv ct) (body := body) (binds := binds) hroom (X _ _ ho) rfl (T.nolimit.keeps F.keep) (codeRec_of X hcd) rfl hbind hcell hloc (fun h₁ hns hk₁ => ?_) hco hgen hk
  exact wpAny_mono (h _ s.heap.objs.size h₁ FG ⟨hns, fun b o e => hk₁ b o (of_hideAll _ e), Nat.le_of_eq (hideAll_size _ _)⟩
    (fun p hp => ⟨hk₁ _ _ (N p hp).1, Nat.ne_of_lt (Heap.lt_size (N p hp).1), hideAll_none _ (List.mem_map_of_mem hp)⟩) BG (X₀.keeps st) (T.keeps st) DG (fun p hp => Heap.lt_size (N p hp).1)) (fun fl s' hl => lv _ _ hl) fun _ _ y => y

theorem code_TC (B : Below A₀ base outer h₀) (F : Fr h₀ L s.heap m) (X₀ : K.In h₀) (N : News h₀ L s.heap news) (T : Top p loose mean mg mb h₀) (XB : K.In base) (TB : Top p loose mean mg mb base) (D : KtsDicts (outer.filterMap (·.frame)) h₀)
    (T0 : KtsTurn (outer.filterMap (·.frame)) g₀ h₀) (hA : A.frames = some (env :: outer)) (hf : env.frame = some L) (hke : env.scope.kind = .function)
    (ho : K.lookup f = some ⟨oc, od, .func (fnOf name qual params body scope dV kV doc pm an cdv ct), osl⟩) (hcd : codeIn K cdv qual = true) (hroom : A.depth < recursionLimit)
    (hbind : BindsTo s (fnOf name qual params body scope dV kV doc pm an cdv ct) args binds) (hkind : (binds.all fun y => scope.names.lookup y.1 == some .local || scope.names.lookup y.1 == some .cell) = true)
    (hnd : ((cellsFrom 0 scope.names []).map (·.1)).Nodup)
    (h : ∀ g L' h₁ tk cells, Fr h₀ L g m → Fr g L' h₁ (bindL (envOfC qual scope L' f cdv).kindOf binds fun _ => none) → News g L' h₁ (cells ++ news) →
      CellsAre (bindC (envOfC qual scope L' f cdv).kindOf binds fun _ => none) (cellsFrom (L' + 1) scope.names []) cells → Below A base (env :: outer) g → K.In g → Top p loose mean mg mb g → KtsDicts ((env :: outer).filterMap (·.frame)) g → (∀ p ∈ news, p.1 < L') →
      wpAny (model prog w) (A.deeper (envOfC qual scope L' f cdv)) (execs body (envOfC qual scope L' f cdv))
        (fun fl s' => LeaveS ((env :: outer).filterMap (·.frame)) A₀ base outer K p loose mean mg mb g₀ h₀ L m g R (match fl with | .ret v => v | _ => .none) s')
        (fun e s' => wpAny (model prog w) (A.deeper (envOfC qual scope L' f cdv)) (leaving (envOfC qual scope L' f cdv) e) (fun _ s'' => R (.error e) s'') (fun e' s'' => R (.error e') s'') s')
        { s with heap := h₁, toks := tk })
    (hco : scope.isCoroutine = false) (hgen : scope.isGenerator = false) (hk : scope.kind = .function) : codeAny (model prog w) A (.call (.ref f) args) R s := by
  have X := X₀.keeps F.keep
  obtain ⟨FG, BG, st, -⟩ := groundX (R := R) B F N hA hf hke
  obtain ⟨DG, lv⟩ := turn_back (R := R) B F N XB TB D T0 hA hf hke
  refine codeAny_call_function hroom (X _ _ ho) rfl hco hgen rfl (codeRec_of X hcd) (hbind _ _ _ _ ?_)
  refine wpAny_newFunctionEnv_cells hk (kindsX hkind _) fun env' he s' x => ?_
  subst he
  refine ⟨(T.nolimit.keeps F.keep).keeps x.toInCall.keep, codeAny_func ?_⟩
  obtain ⟨h₁, tk, rfl, _⟩ := x.done
  have hk₁ := x.toInCall.keep
  obtain ⟨cells, NC, Y⟩ := Cl.news (h₀ := s.heap) (Nat.le_refl _) fun n c hm => ⟨x.cell n c (lookup_of_mem_nodup (cellsFrom_names scope.names 0 (s.heap.objs.size + 1) [] [] rfl ▸ hnd) hm), x.above n c hm⟩
  refine wpAny_mono (h _ s.heap.objs.size h₁ tk cells FG ⟨x.toInCall.ns, fun b o e => hk₁ b o (of_hideAll _ e), Nat.le_of_eq (hideAll_size _ _)⟩ (fun p hp => ?_) Y BG (X₀.keeps st) (T.keeps st) DG (fun p hp => Heap.lt_size (N p hp).1)) (fun fl s' hl => lv _ _ hl) fun _ _ y => y
  rcases List.mem_append.mp hp with hp | hp
  · refine ⟨(NC p hp).1, (NC p hp).2.1, ?_⟩
    cases q : (hideAll s.heap (news.map (·.1))).get? p.1 with
    | none => rfl
    | some o => have := of_hideAll _ q; rw [(NC p hp).2.2] at this; cases this
  · exact ⟨hk₁ _ _ (N p hp).1, Nat.ne_of_lt (Heap.lt_size (N p hp).1), hideAll_none _ (List.mem_map_of_mem hp)⟩
end
end Mine
end E6

section K1
set_option maxHeartbeats 4000000
namespace Mine
open PySem PySem.W PySem.Spec PySem.Calls PyProof.Rows
theorem exIn_51 (P : Params) : exIn (hd.heap_39 P) 51 = true := rfl
theorem exIn_70 (P : Params) : exIn (hd.heap_39 P) 70 = true := rfl
theorem exOver_51 (P : Params) : exOver (hd.heap_39 P) 51 = true := rfl
theorem exOver_70 (P : Params) : exOver (hd.heap_39 P) 70 = true := rfl

theorem far_ne {d x : Addr} {news : List (Addr × Obj)} (h : AllLt d news) (l : @LT.lt Nat _ d x) : ∀ p ∈ news, p.1 ≠ x := fun p hp => Nat.ne_of_lt (Nat.lt_trans (tb_ltOf h p hp) l)
theorem sgn_ok (p q : Bool) (x : Int) : IntMulOk (b2i p - b2i q) x := by
  refine IntMulOk.of_left (intBits_le_64 ?_ ?_) <;> (cases p <;> cases q <;> decide)
/-- the first leaving: what is kept is the dict, the list in it and all of the caller's -/
theorem leave_first2 {M : Model} {A : Around} {E : Value → Shared → Prop} {s' : Shared} {base g : Heap} {outer : List Env} {L e C de li : Addr} {m : Str → Option Value} {env : Env} {Q : Unit → Shared → Prop} {news old : List (Addr × Obj)} {ox od ol : Obj} {vs : Array Value} {a0 : Value}
    (hf : env.frame = some L) (hk : env.scope.kind = .function) (K : Below A base outer g) (F : Fr g L s'.heap m) (N : News g L s'.heap news) (hx : (e, ox) ∈ news) (hcl : ox.cls = .ref C) (hd : ox.data = .fields vs) (h0 : vs[0]? = some a0) (h1 : vs[1]? = some .none) (hdi : ox.dict = some de)
    (hde : (de, od) ∈ news) (hli : (li, ol) ∈ news) (ne : od.data ≠ ox.data) (ne2 : ol.data ≠ ox.data) (hold : ∀ p ∈ old, p ∈ news) (hoff : ∀ p ∈ old, p.1 ≠ e)
    (hQ : ∀ h', FlyD base g outer e C de ((de, od) :: (li, ol) :: old) h' → g.UpToSlots h' → Q () { s' with heap := h' }) :
    wpAny M (A.deeper env) (leaving env (.ref e)) Q E s' := by
  have other : ∀ {q : Addr × Obj}, q ∈ news → q.2.data ≠ ox.data → q.1 ≠ e := fun {q} hq hn z => by
    have := (N q hq).1
    rw [z, N.get hx] at this
    exact hn (by rw [Option.some.inj this])
  refine leave_firstD hf hk K F N hx hcl hd h0 h1 hdi (fun q hq => ?_) hQ
  rcases List.mem_cons.mp hq with rfl | hq
  · exact ⟨hde, other hde ne⟩
  · rcases List.mem_cons.mp hq with rfl | hq
    · exact ⟨hli, other hli ne2⟩
    · exact ⟨hold q hq, hoff q hq⟩
theorem sub5 {a b c d e : Addr × Obj} {old : List (Addr × Obj)} : ∀ p ∈ old, p ∈ a :: b :: c :: d :: e :: old := fun _ hp => .tail _ (.tail _ (.tail _ (.tail _ (.tail _ hp))))
theorem sub4 {a b c d : Addr × Obj} {old : List (Addr × Obj)} : ∀ p ∈ old, p ∈ a :: b :: c :: d :: old := fun _ hp => .tail _ (.tail _ (.tail _ (.tail _ hp)))
theorem FlyD.sub {base G : Heap} {l : List Env} {e C de : Addr} {news news' : List (Addr × Obj)} {h : Heap} (x : FlyD base G l e C de news h) (k : ∀ p ∈ news', p ∈ news) : FlyD base G l e C de news' h := by
  obtain ⟨⟨B, a0, hB, hBG, hl, hfl⟩, hde⟩ := x
  exact ⟨⟨B, a0, hB, hBG, fun q hq => hl q (k q hq), hfl⟩, hde⟩

abbrev realD (P : Params) (k1 k2 : Tok) (m : Int) (t1 : Tok) (e : Int) (t2 : Tok) : Obj :=
  dictOf [⟨PyData.keyHash P ("mantissa" : Str), .str ("mantissa" : Str) k1, .int m t1⟩, ⟨PyData.keyHash P ("exponent" : Str), .str ("exponent" : Str) k2, .int e t2⟩] 2
/-- a Real came back -/
abbrev OkC (w : World) (h₀ : Heap) (L : Addr) (m : Str → Option Value) (news : List (Addr × Obj)) (s : Shared) (Q : Value → Shared → Prop) (o ex : Int) : Prop :=
  ∀ x dx k1 k2 t1 t2 h' tk', Fr h₀ L h' m → News h₀ L h' ((x, instObj 89 dx) :: (dx, realD w.params k1 k2 o t1 ex t2) :: news) → AllLt dx news → @LT.lt Nat _ dx x → Q (.ref x) { s with heap := h', toks := tk' }
/-- OutOfRange is on its way -/
abbrev BadC (base h₀ : Heap) (L : Addr) (m : Str → Option Value) (l : List Env) (news : List (Addr × Obj)) (s : Shared) (E : Value → Shared → Prop) (pl : Int) : Prop :=
  ∀ g₂ e de li es n t1 t2 t3 h' tk', Fr h₀ L g₂ m → FlyD base g₂ l e 51 de ((de, dictOf es n) :: (li, W.listOf #[.str ("inexact" : Str) t1, .int 0 t2, .int pl t3] 0) :: news) h' → getL ("irritants" : Str) es = some (some (.ref li)) → g₂.UpToSlots h' → E (.ref e) { s with heap := h', toks := tk' }
/-- DivisionByZero is on its way -/
abbrev BadZ (base h₀ : Heap) (L : Addr) (m : Str → Option Value) (l : List Env) (news : List (Addr × Obj)) (s : Shared) (E : Value → Shared → Prop) : Prop :=
  ∀ g₂ e de li es n t1 h' tk', Fr h₀ L g₂ m → FlyD base g₂ l e 70 de ((de, dictOf es n) :: (li, W.listOf #[.str ("/" : Str) t1] 0) :: news) h' → getL ("irritants" : Str) es = some (some (.ref li)) → g₂.UpToSlots h' → E (.ref e) { s with heap := h', toks := tk' }
abbrev szI (M : Int) : Int := ((Builtin.Int.intBits (if M < 0 then -M else M) : Nat) : Int)
abbrev zbI (M : Int) : Int := ((Builtin.Int.intBits (Builtin.bitAnd M (0 - M)) : Nat) : Int) - 1
theorem okc_use {w : World} {h₀ : Heap} {L : Addr} {m : Str → Option Value} {news mid : List (Addr × Obj)} {s : Shared} {Q : Value → Shared → Prop} {o ex : Int} (k : OkC w h₀ L m news s Q o ex) {x dx : Addr} {k1 k2 t1 t2 : Tok} {h' : Heap} {tk' : Nat}
    (F : Fr h₀ L h' m) (N : News h₀ L h' ((x, instObj 89 dx) :: (dx, realD w.params k1 k2 o t1 ex t2) :: mid)) (sub : ∀ p ∈ news, p ∈ mid) (A : AllLt dx mid) (l : @LT.lt Nat _ dx x) : Q (.ref x) { s with heap := h', toks := tk' } :=
  k _ _ _ _ _ _ _ _ F (cb_drop N fun p hp => by
    rcases List.mem_cons.mp hp with rfl | hp
    · exact .head _
    · rcases List.mem_cons.mp hp with rfl | hp
      · exact .tail _ (.head _)
      · exact .tail _ (.tail _ (sub p hp))) (allLt_of fun p hp => tb_ltOf A p (sub p hp)) l
theorem badc_use {base h₀ g₂ : Heap} {L e de li : Addr} {m : Str → Option Value} {l : List Env} {news mid : List (Addr × Obj)} {s : Shared} {E : Value → Shared → Prop} {pl : Int} (k : BadC base h₀ L m l news s E pl) {es : List DictEntry} {n : Nat} {t1 t2 t3 : Tok} {h' : Heap} {tk' : Nat}
    (F : Fr h₀ L g₂ m) (R : FlyD base g₂ l e 51 de ((de, dictOf es n) :: (li, W.listOf #[.str ("inexact" : Str) t1, .int 0 t2, .int pl t3] 0) :: mid) h') (sub : ∀ p ∈ news, p ∈ mid) (g : getL ("irritants" : Str) es = some (some (.ref li))) (U : g₂.UpToSlots h') : E (.ref e) { s with heap := h', toks := tk' } :=
  k _ _ _ _ _ _ _ _ _ _ _ F (R.sub fun p hp => by
    rcases List.mem_cons.mp hp with rfl | hp
    · exact .head _
    · rcases List.mem_cons.mp hp with rfl | hp
      · exact .tail _ (.head _)
      · exact .tail _ (.tail _ (sub p hp))) g U
theorem cb_dropL {h₀ h : Heap} {L : Addr} {p : Addr × Obj} {mid news : List (Addr × Obj)} (N : News h₀ L h (p :: mid)) (sub : ∀ q ∈ news, q ∈ mid) : News h₀ L h (p :: news) := cb_drop N fun q hq => by
  rcases List.mem_cons.mp hq with rfl | hq
  · exact .head _
  · exact .tail _ (sub q hq)
def Dec (M X o ex pl : Int) : Prop := M ≠ 0 ∧ 0 ≤ zbI M ∧ M.fdiv (2 ^ (zbI M).toNat) = o ∧ X + zbI M = ex ∧ szI M + X = pl
end Mine
end K1

section P1
set_option maxHeartbeats 4000000
namespace Mine
open PySem PySem.W PySem.Spec PySem.Calls PyProof.Rows

abbrev absI (M : Int) : Int := if M < 0 then -M else M
/-- what a rounding by four places is told -/
def RndF (p M X top : Int) : Prop := szI M - p = 4 ∧ 0 ≤ absI M ∧ absI M % 16 = 0 ∧ Dec ((b2i (decide (0 < M)) - b2i (decide (M < 0))) * (absI M / 16)) (X + (szI M - p)) top 0 (szI top)
abbrev topM (p top : Int) : Int := (b2i (decide (0 < top)) - b2i (decide (top < 0))) * (2 * ((if top < 0 then -top else top) * 2 ^ (p + 2 + ((Builtin.Int.intBits (if (1:Int) < 0 then -1 else 1) : Nat) : Int) - ((Builtin.Int.intBits (if top < 0 then -top else top) : Nat) : Int)).toNat).fdiv 1 + 0)
abbrev topX (p top : Int) : Int := 0 - (p + 2 + ((Builtin.Int.intBits (if (1:Int) < 0 then -1 else 1) : Nat) : Int) - ((Builtin.Int.intBits (if top < 0 then -top else top) : Nat) : Int)) - 1
/-- an odd number of at most p - 1 places -/
def Odd5 (p top : Int) : Prop := 3 ≤ p ∧ p ≤ 6 ∧ top % 2 = 1 ∧ -(2 ^ (p - 1).toNat) < top ∧ top < 2 ^ (p - 1).toNat

theorem odd_range {p top : Int} (h : Odd5 p top) : -32 < top ∧ top < 32 := by
  obtain ⟨h3, h6, _, hl, hu⟩ := h
  have : (2 : Int) ^ (p - 1).toNat ≤ 32 := by
    rcases (show p = 3 ∨ p = 4 ∨ p = 5 ∨ p = 6 by omega) with rfl | rfl | rfl | rfl <;> decide
  omega
theorem all_tops (P : Int → Int → Prop) (h : ∀ p : Fin 4, ∀ t : Fin 64, Odd5 ((p.val : Int) + 3) ((t.val : Int) - 32) → P ((p.val : Int) + 3) ((t.val : Int) - 32)) {p top : Int} (o : Odd5 p top) : P p top := by
  obtain ⟨hl, hu⟩ := odd_range o
  have h3 := o.1
  have h6 := o.2.1
  have e1 : (((⟨(p - 3).toNat, by omega⟩ : Fin 4).val : Nat) : Int) + 3 = p := by show (((p - 3).toNat : Nat) : Int) + 3 = p; omega
  have e2 : (((⟨(top + 32).toNat, by omega⟩ : Fin 64).val : Nat) : Int) - 32 = top := by show (((top + 32).toNat : Nat) : Int) - 32 = top; omega
  have := h ⟨(p - 3).toNat, by omega⟩ ⟨(top + 32).toNat, by omega⟩
  rw [e1, e2] at this
  exact this o
theorem odd_size {p top : Int} (o : Odd5 p top) : 1 ≤ szI top ∧ szI top ≤ p - 1 ∧ zbI top = 0 ∧ szI (2 * top) = szI top + 1 ∧ zbI (2 * top) = 1 := by
  refine all_tops (fun p top => 1 ≤ szI top ∧ szI top ≤ p - 1 ∧ zbI top = 0 ∧ szI (2 * top) = szI top + 1 ∧ zbI (2 * top) = 1) ?_ o
  unfold Odd5
  decide +kernel
theorem rnd_facts {p top : Int} (o : Odd5 p top) : RndF p (topM p top) (topX p top) top := by
  refine all_tops (fun p top => RndF p (topM p top) (topX p top) top) ?_ o
  unfold Odd5 RndF Dec
  decide +kernel
theorem dec_odd {p top X : Int} (o : Odd5 p top) : Dec top X top X (szI top + X) := by
  obtain ⟨h1, h2, h3, h4, h5⟩ := odd_size o
  refine ⟨fun z => ?_, Int.le_of_eq h3.symm, ?_, by rw [h3]; omega, rfl⟩
  · rw [z] at h1; exact absurd h1 (by decide)
  · rw [h3]; exact Int.fdiv_one top
theorem dec_twice {p top X : Int} (o : Odd5 p top) : Dec (2 * top) X top (X + 1) (szI top + 1 + X) := by
  obtain ⟨h1, h2, h3, h4, h5⟩ := odd_size o
  refine ⟨fun z => ?_, by rw [h5]; decide, ?_, by rw [h5], by rw [h4]⟩
  · rw [show top = 0 by omega] at h1; exact absurd h1 (by decide)
  · rw [h5, Int.fdiv_eq_ediv_of_nonneg _ (by decide)]
    show 2 * top / 2 = top
    omega
end Mine
end P1

section P2
set_option maxHeartbeats 4000000
namespace Mine
open PySem PySem.W PySem.Spec PySem.Calls PyProof.Rows

/-- a power of the edge -/
def PwF (bits P : Int) : Prop := P = 2 ^ (bits - 2).toNat
/-- a sign's product -/
def sgW (w a : Int) : Int := (1 - 2 * w) * a
theorem sgW_cases {w : Int} (a : Int) (h0 : 0 ≤ w) (h2 : w < 2) : sgW w a = a ∨ sgW w a = 0 - a := by
  unfold sgW
  rcases (show w = 0 ∨ w = 1 by omega) with rfl | rfl
  · left; omega
  · right; omega
theorem pw_bound {bits P : Int} (h3 : 3 ≤ bits) (h6 : bits ≤ 6) (h : PwF bits P) : 2 ≤ P ∧ P ≤ 16 := by
  unfold PwF at h
  rcases (show bits = 3 ∨ bits = 4 ∨ bits = 5 ∨ bits = 6 by omega) with rfl | rfl | rfl | rfl <;> (have : P = _ := h.trans rfl; subst this; decide)
theorem mant_odd {bits P r : Int} (h3 : 3 ≤ bits) (h6 : bits ≤ 6) (h : PwF bits P) (h0 : 0 ≤ r) (hr : r < P) {w : Int} (hw : 0 ≤ w) (hw2 : w < 2) : Odd5 bits (sgW w (2 * r + 1)) := by
  have e := sgW_cases (2 * r + 1) hw hw2
  generalize sgW w (2 * r + 1) = z at e
  unfold PwF at h
  refine ⟨h3, h6, by omega, ?_⟩
  rcases (show bits = 3 ∨ bits = 4 ∨ bits = 5 ∨ bits = 6 by omega) with rfl | rfl | rfl | rfl
  · have : P = 2 := h.trans rfl
    have q : (2 : Int) ^ ((3 : Int) - 1).toNat = 4 := rfl
    rw [q]; omega
  · have : P = 4 := h.trans rfl
    have q : (2 : Int) ^ ((4 : Int) - 1).toNat = 8 := rfl
    rw [q]; omega
  · have : P = 8 := h.trans rfl
    have q : (2 : Int) ^ ((5 : Int) - 1).toNat = 16 := rfl
    rw [q]; omega
  · have : P = 16 := h.trans rfl
    have q : (2 : Int) ^ ((6 : Int) - 1).toNat = 32 := rfl
    rw [q]; omega
theorem mant_size {r : Int} (h0 : 0 ≤ r) : ((Builtin.Int.intBits (2 * r + 1) : Nat) : Int) = szI (2 * r + 1) := by
  unfold szI
  rw [if_neg (by omega)]
theorem szI_sg {w a : Int} (hw : 0 ≤ w) (hw2 : w < 2) : szI (sgW w a) = szI a := by
  have e := sgW_cases a hw hw2
  generalize sgW w a = z at e
  unfold szI
  have : (if z < 0 then -z else z) = (if a < 0 then -a else a) := by
    split <;> split <;> omega
  rw [this]
section
variable {prog : Program} {w : World} {A : Around} {t u : Tok} {Q E : Value → Shared → Prop} {s : Shared}
theorem pow_edge {bits : Int} (h3 : 3 ≤ bits) (h6 : bits ≤ 6) (h : ∀ P, PwF bits P → 2 ≤ P → P ≤ 16 → Q (.int P s.toks) { s with toks := s.toks + 1 }) : wpAny (model prog w) A (binaryOp .Pow (.int 2 t) (.int (bits - 2) u)) Q E s :=
  pow_int_small (by omega) (by omega) (by decide) (h _ rfl (pw_bound h3 h6 rfl).1 (pw_bound h3 h6 rfl).2)
theorem mod_edge {a b : Int} (hb : 0 < b) (h : ∀ r : Int, 0 ≤ r → r < b → Q (.int r s.toks) { s with toks := s.toks + 1 }) : wpAny (model prog w) A (binaryOp .Mod (.int a t) (.int b u)) Q E s :=
  mod_int' (by omega) (h _ (Int.fmod_nonneg_of_pos _ hb) (Int.fmod_lt_of_pos _ hb))
theorem fdiv_edge {a b : Int} (hb : 0 < b) (hb2 : b ≤ 16) (h : ∀ r : Int, Q (.int r s.toks) { s with toks := s.toks + 1 }) : wpAny (model prog w) A (binaryOp .FloorDiv (.int a t) (.int b u)) Q E s :=
  floordiv_int (by omega) (h _) (Or.inl (PyProof.noPylong_of_log2 (by
    have := Nat.log2_le_self b.natAbs
    omega)))
theorem mul_sgL {a x : Int} (h0 : 0 ≤ x) (h2 : x < 2) (h : sgW x a = a ∨ sgW x a = 0 - a → Q (.int (sgW x a) s.toks) { s with toks := s.toks + 1 }) : wpAny (model prog w) A (binaryOp .Mult (.int (1 - 2 * x) t) (.int a u)) Q E s :=
  mul_int (h (sgW_cases a h0 h2)) (IntMulOk.of_left (by rcases (show x = 0 ∨ x = 1 by omega) with rfl | rfl <;> decide))
theorem mul_sgR {a x : Int} (h0 : 0 ≤ x) (h2 : x < 2) (h : ∀ c : Int, c = a ∨ c = 0 - a → Q (.int c s.toks) { s with toks := s.toks + 1 }) : wpAny (model prog w) A (binaryOp .Mult (.int a t) (.int (1 - 2 * x) u)) Q E s := by
  refine mul_int ?_ (IntMulOk.of_right (by rcases (show x = 0 ∨ x = 1 by omega) with rfl | rfl <;> decide))
  have := h _ (sgW_cases a h0 h2)
  unfold sgW at this
  rw [Int.mul_comm] at this
  exact this
end
/-- what the edge's values are to each other -/
def EdgeP (bits o ex pl : Int) : Prop := Odd5 bits o ∧ szI o + ex = pl
theorem dec_any {p o M X ex pl : Int} (O : Odd5 p o) (e : szI o + ex = pl) (hM : M = o) (hX : X = ex) : Dec M X o ex pl := by
  subst hM hX e
  exact dec_odd O
theorem hp_any {p o M : Int} (O : Odd5 p o) (hM : M = o) : szI M ≤ p := by
  subst hM
  have := (odd_size O).2.1
  omega
theorem due_note {prog : Program} {w : World} {A : Around} {Q E : Value → Shared → Prop} {s : Shared} {bits P r x f pl : Int} {t1 t2 t3 : Tok} (h3 : 3 ≤ bits) (h6 : bits ≤ 6) (hP : PwF bits P) (h0 : 0 ≤ r) (hr : r < P) (hx : 0 ≤ x) (hx2 : x < 2)
    (h : EdgeP bits (sgW x (2 * r + 1)) (f + (pl - ((Builtin.Int.intBits (2 * r + 1) : Nat) : Int) - f)) pl → Odd5 bits (sgW x (2 * r + 1)) → -32 < sgW x (2 * r + 1) → sgW x (2 * r + 1) < 32 → szI (sgW x (2 * r + 1)) = ((Builtin.Int.intBits (2 * r + 1) : Nat) : Int) →
      wpAny (model prog w) A (call (.ref 219) [.int (sgW x (2 * r + 1)) t1, .int (f + (pl - ((Builtin.Int.intBits (2 * r + 1) : Nat) : Int) - f)) t2, .int pl t3]) Q E s) :
    wpAny (model prog w) A (call (.ref 219) [.int (sgW x (2 * r + 1)) t1, .int (f + (pl - ((Builtin.Int.intBits (2 * r + 1) : Nat) : Int) - f)) t2, .int pl t3]) Q E s := by
  have O := mant_odd h3 h6 hP h0 hr hx hx2
  have S : szI (sgW x (2 * r + 1)) = ((Builtin.Int.intBits (2 * r + 1) : Nat) : Int) := (szI_sg hx hx2).trans (mant_size h0).symm
  exact h ⟨O, by rw [S]; omega⟩ O (odd_range O).1 (odd_range O).2 S
theorem ex_of {bits o ex pl X : Int} (e0 : EdgeP bits o ex pl) (h : X = ex) : X = ex := h
theorem pl_of {bits o ex pl X : Int} (e0 : EdgeP bits o ex pl) (h : X = pl) : X = pl := h
theorem sub_self {α : Type} {l : List α} : ∀ q ∈ l, q ∈ l := fun _ h => h
theorem off_cons {p : Addr × Obj} {P : Addr} {l : List (Addr × Obj)} (h : @Ne Nat p.1 P) (k : ∀ q ∈ l, q.1 ≠ P) : ∀ q ∈ p :: l, q.1 ≠ P := fun q hq => by
  rcases List.mem_cons.mp hq with rfl | hq
  · exact h
  · exact k q hq
theorem news_sub {h₀ h : Heap} {L : Addr} {l l' : List (Addr × Obj)} (N : News h₀ L h l') (k : ∀ q ∈ l, q ∈ l') : News h₀ L h l := fun q hq => N q (k q hq)
theorem sub_cons {α : Type} {p : α} {l l' : List α} (h : p ∈ l') (k : ∀ q ∈ l, q ∈ l') : ∀ q ∈ p :: l, q ∈ l' := fun q hq => by
  rcases List.mem_cons.mp hq with rfl | hq
  · exact h
  · exact k q hq
end Mine
end P2

section KL
set_option maxHeartbeats 4000000
namespace Mine
open PySem PySem.W PySem.Spec PySem.Calls PyProof.Rows

/-- a code object that the ledger bears -/
def CodeAt (qual : Str) (p : Addr × Obj) : Prop := ∃ vs t, p.2.data = .fields vs ∧ vs[1]? = some (.str qual t)
/-- a table of places and the code objects in it -/
def TabI (qual : Str) (P : Addr) (ps : Array Value) (codes : List (Addr × Obj)) : Prop :=
  TriplesOk ps.toList ∧ ∀ pos v, codeAmong pos ps.toList = some v → ∃ c' oc, v = .ref c' ∧ (c', oc) ∈ codes ∧ c' ≠ P ∧ CodeAt qual (c', oc)
theorem triples_snoc {a b : Nat} {c : Value} (l : List Value) (h : TriplesOk l) : TriplesOk (l ++ [rawInt a, rawInt b, c]) := by
  fun_induction TriplesOk l with
  | case1 => simp [TriplesOk, rawInt]
  | case2 i t j u c' r ih => exact ih h
  | case3 => exact h.elim
theorem among_snoc {pos : Pos} {a b : Nat} {c v : Value} (l : List Value) (h : TriplesOk l) (e : codeAmong pos (l ++ [rawInt a, rawInt b, c]) = some v) : codeAmong pos l = some v ∨ v = c := by
  fun_induction TriplesOk l with
  | case1 =>
    right
    simp only [List.nil_append, codeAmong, rawInt] at e
    split at e
    · exact (Option.some.inj e).symm
    · cases e
  | case2 i t j u c' r ih =>
    simp only [List.cons_append, codeAmong] at e ⊢
    split at e
    · left; rename_i q; rw [if_pos q]; exact e
    · rename_i q; rw [if_neg q]; exact ih h e
  | case3 => exact h.elim
theorem TabI.nil {qual : Str} {P : Addr} {codes : List (Addr × Obj)} : TabI qual P #[] codes := ⟨trivial, fun pos v e => by simp [codeAmong] at e⟩
theorem TabI.mono {qual : Str} {P : Addr} {ps : Array Value} {codes codes' : List (Addr × Obj)} (x : TabI qual P ps codes) (k : ∀ p ∈ codes, p ∈ codes') : TabI qual P ps codes' :=
  ⟨x.1, fun pos v e => let ⟨c', oc, q, hm, h⟩ := x.2 pos v e; ⟨c', oc, q, k _ hm, h⟩⟩
section
variable {M : Model} {A : Around} {E : Value → Shared → Prop} {s : Shared} {h₀ : Heap} {L a c P : Addr} {m mg mb : Str → Option Value} {cn : Str} {cs : Scope} {ccd : Value} {cl : List (Str × Addr)} {news codes : List (Addr × Obj)} {g : Obj → List (Addr × Obj)}
  {p : Program} {loose : List Str} {mean : ExcName → Option Value} {name qual : Str} {params : Arguments} {body : Expr} {scope : Scope} {ps : Array Value} {pos : Pos} {firstLine : Nat} {clos : List (Str × Addr)}
theorem lam_any {Q : Value → Shared → Prop} {ox : Obj} {v₀ : Option Value} (F : Fr h₀ L s.heap m) (N : News h₀ L s.heap news) (T : Top p loose mean mg mb h₀) (C : CodeHd h₀ c P) (hcd : ccd = .ref c) (U : UpdF P (tabObj ps) news g) (I : TabI qual P ps codes) (sub : ∀ q ∈ codes, q ∈ news)
    (hcl : closureFor scope (envX cn cs L a ccd cl) = pure clos) (hx : (L + 1 + 1 + 1, ox) ∈ news) (hxd : ox.data = .cell v₀)
    (h : ∀ f c' oc vs t ctv h' tk ps', Fr h₀ L h' m →
      News h₀ L h' ((f, kla_obj name qual params body scope clos ((mg "__name__").getD .none) c' ctv) :: (c', oc) :: g (tabObj ps')) →
      oc.data = .fields vs → vs[1]? = some (.str qual t) → (∀ q ∈ news, q.1 < f) → @LT.lt Nat _ c' f → @Ne Nat c' P → @Ne Nat c' (L + 1 + 1 + 1) → TabI qual P ps' ((c', oc) :: codes) → Q (.ref f) { s with heap := h', toks := tk }) :
    wpAny M A (makeFunction name qual params (.expr body) scope (envX cn cs L a ccd cl) [] [] [] pos firstLine) Q E s := by
  have far : ∀ {c' : Addr} {oc : Obj} {vs : Array Value}, s.heap.get? c' = some oc → oc.data = .fields vs → @Ne Nat c' (L + 1 + 1 + 1) := fun {c' oc vs} ho hd q => by
    have e := (N _ hx).1
    have : s.heap.get? c' = s.heap.get? (L + 1 + 1 + 1) := congrArg _ q
    rw [this, e] at ho
    cases ho
    rw [hxd] at hd
    cases hd
  cases hf : codeAmong pos ps.toList with
  | some v =>
    obtain ⟨c', oc, rfl, hm, hP, vs, t, hd, hv⟩ := I.2 pos v hf
    have hN := N _ (sub _ hm)
    obtain ⟨own, rest, hn, hgr, h1, h2⟩ := U.split
    refine kla_hit F N T C hcd (ps := ps) (by rw [hn]; exact List.mem_append_right _ (.head _)) I.1 hf hcl fun f ctv h' tk F' N' l => ?_
    have hfc : @LT.lt Nat _ c' f := l _ (sub _ hm)
    refine h f c' oc vs t ctv h' tk ps F' (fun q hq => ?_) hd hv l hfc hP (far hN.1 hd) (I.mono fun q hq => .tail _ hq)
    rcases List.mem_cons.mp hq with rfl | hq
    · exact N' _ (.head _)
    · rcases List.mem_cons.mp hq with rfl | hq
      · exact N' _ (.tail _ (sub _ hm))
      · rw [hgr] at hq
        exact N' _ (.tail _ (by rw [hn]; exact hq))
  | none =>
    obtain ⟨own, rest, hn, hgr, h1, h2⟩ := U.split
    refine kla_nest F N T C hcd U I.1 hf hcl fun f c' oc vs t ctv h' tk F' N' hd hv l1 l2 => ?_
    have hcP : @Ne Nat c' P := fun q => by
      have := l1 (P, tabObj ps) (by rw [hn]; exact List.mem_append_right _ (.head _))
      exact absurd q (Nat.ne_of_gt this)
    have hcx : @Ne Nat c' (L + 1 + 1 + 1) := fun q => absurd q (Nat.ne_of_gt (l1 _ hx))
    refine h f c' oc vs t ctv h' tk _ F' N' hd hv (fun q hq => Nat.lt_trans (l1 q hq) l2) l2 hcP hcx ⟨?_, fun pos' v e => ?_⟩
    · rw [Array.toList_append]
      exact triples_snoc _ I.1
    · rw [Array.toList_append] at e
      rcases among_snoc _ I.1 e with e | e
      · obtain ⟨c₂, oc₂, q, hm, hk⟩ := I.2 pos' v e
        exact ⟨c₂, oc₂, q, .tail _ hm, hk⟩
      · exact ⟨c', oc, e, .head _, hcP, vs, t, hd, hv⟩
end
end Mine
end KL

section CM
set_option maxHeartbeats 4000000
namespace Mine
open PySem PySem.W PySem.Spec PySem.Calls PyProof.Rows
theorem shp4 (o ex : Int) : SeqAt.shaped (.list [.str ("range" : Str), .str ("inexact" : Str), .int o, .int ex]) = true := by
  simp [SeqAt.shaped, PyData.canLay0, PyData.canLayAll0, PyData.depth, PyData.depthAll]
  exact ⟨by decide +kernel, by decide +kernel⟩
theorem shpz : SeqAt.shaped (.list [.str ("zero" : Str), .str ("/" : Str)]) = true := by
  simp [SeqAt.shaped, PyData.canLay0, PyData.canLayAll0, PyData.depth, PyData.depthAll]
  exact ⟨by decide +kernel, by decide +kernel⟩
section
variable {prog : Program} {w : World} {A : Around} {E Q : Value → Shared → Prop} {s : Shared} {h₀ : Heap} {L a b : Addr} {news : List (Addr × Obj)} {oa ob : Obj} {na nb : Nat} {o ex : Int} {t1 t2 t3 t4 u1 u2 u3 u4 : Tok}
theorem cmp_ne2 (N : News h₀ L s.heap news) (ha : (a, oa) ∈ news) (ca : oa.cls = .type "list") (da : oa.data = .seq #[.int o t1, .int ex t2] na) (hb : (b, ob) ∈ news) (cb : ob.cls = .type "list") (db : ob.data = .seq #[.int o u1, .int ex u2] nb) (hu : A.units + 64 < cLine)
    (h : Q (.bool false) s) : wpAny (model prog w) A (compareOp .NotEq (.ref a) (.ref b)) Q E s := by
  refine ne_dataH (reads_list_at (N.get ha) ca da (xs := [.int o, .int ex]) (.cons (.int _ _) (.cons (.int _ _) .nil))) (reads_list_at (N.get hb) cb db (xs := [.int o, .int ex]) (.cons (.int _ _) (.cons (.int _ _) .nil))) rfl rfl hu ?_
  simp only [PyData.eqv, PyData.eqvAll, beq_self_eq_true, Bool.and_true, Bool.not_true]
  exact h
theorem cmp_eq2 (N : News h₀ L s.heap news) (ha : (a, oa) ∈ news) (ca : oa.cls = .type "list") (da : oa.data = .seq #[.int o t1, .int ex t2] na) (hb : (b, ob) ∈ news) (cb : ob.cls = .type "list") (db : ob.data = .seq #[.int o u1, .int ex u2] nb) (hu : A.units + 64 < cLine)
    (h : Q (.bool true) s) : wpAny (model prog w) A (compareOp .Eq (.ref a) (.ref b)) Q E s := by
  refine eq_dataH (reads_list_at (N.get ha) ca da (xs := [.int o, .int ex]) (.cons (.int _ _) (.cons (.int _ _) .nil))) (reads_list_at (N.get hb) cb db (xs := [.int o, .int ex]) (.cons (.int _ _) (.cons (.int _ _) .nil))) rfl rfl hu ?_
  simp only [PyData.eqv, PyData.eqvAll, beq_self_eq_true, Bool.and_true, Bool.not_true]
  exact h
theorem cmp_ne4 (N : News h₀ L s.heap news) (ha : (a, oa) ∈ news) (ca : oa.cls = .type "list") (da : oa.data = .seq #[.str ("range" : Str) t1, .str ("inexact" : Str) t2, .int o t3, .int ex t4] na) (hb : (b, ob) ∈ news) (cb : ob.cls = .type "list") (db : ob.data = .seq #[.str ("range" : Str) u1, .str ("inexact" : Str) u2, .int o u3, .int ex u4] nb) (hu : A.units + 64 < cLine)
    (h : Q (.bool false) s) : wpAny (model prog w) A (compareOp .NotEq (.ref a) (.ref b)) Q E s := by
  refine ne_dataH (reads_list_at (N.get ha) ca da (xs := [.str ("range" : Str), .str ("inexact" : Str), .int o, .int ex]) (.cons (.str _ _) (.cons (.str _ _) (.cons (.int _ _) (.cons (.int _ _) .nil))))) (reads_list_at (N.get hb) cb db (xs := [.str ("range" : Str), .str ("inexact" : Str), .int o, .int ex]) (.cons (.str _ _) (.cons (.str _ _) (.cons (.int _ _) (.cons (.int _ _) .nil))))) (shp4 o ex) (shp4 o ex) hu ?_
  simp only [PyData.eqv, PyData.eqvAll, beq_self_eq_true, Bool.and_true, Bool.not_true]
  exact h
theorem cmp_eq4 (N : News h₀ L s.heap news) (ha : (a, oa) ∈ news) (ca : oa.cls = .type "list") (da : oa.data = .seq #[.str ("range" : Str) t1, .str ("inexact" : Str) t2, .int o t3, .int ex t4] na) (hb : (b, ob) ∈ news) (cb : ob.cls = .type "list") (db : ob.data = .seq #[.str ("range" : Str) u1, .str ("inexact" : Str) u2, .int o u3, .int ex u4] nb) (hu : A.units + 64 < cLine)
    (h : Q (.bool true) s) : wpAny (model prog w) A (compareOp .Eq (.ref a) (.ref b)) Q E s := by
  refine eq_dataH (reads_list_at (N.get ha) ca da (xs := [.str ("range" : Str), .str ("inexact" : Str), .int o, .int ex]) (.cons (.str _ _) (.cons (.str _ _) (.cons (.int _ _) (.cons (.int _ _) .nil))))) (reads_list_at (N.get hb) cb db (xs := [.str ("range" : Str), .str ("inexact" : Str), .int o, .int ex]) (.cons (.str _ _) (.cons (.str _ _) (.cons (.int _ _) (.cons (.int _ _) .nil))))) (shp4 o ex) (shp4 o ex) hu ?_
  simp only [PyData.eqv, PyData.eqvAll, beq_self_eq_true, Bool.and_true, Bool.not_true]
  exact h
theorem cmp_eqz (N : News h₀ L s.heap news) (ha : (a, oa) ∈ news) (ca : oa.cls = .type "list") (da : oa.data = .seq #[.str ("zero" : Str) t1, .str ("/" : Str) t2] na) (hb : (b, ob) ∈ news) (cb : ob.cls = .type "list") (db : ob.data = .seq #[.str ("zero" : Str) u1, .str ("/" : Str) u2] nb) (hu : A.units + 64 < cLine)
    (h : Q (.bool true) s) : wpAny (model prog w) A (compareOp .Eq (.ref a) (.ref b)) Q E s := by
  refine eq_dataH (reads_list_at (N.get ha) ca da (xs := [.str ("zero" : Str), .str ("/" : Str)]) (.cons (.str _ _) (.cons (.str _ _) .nil))) (reads_list_at (N.get hb) cb db (xs := [.str ("zero" : Str), .str ("/" : Str)]) (.cons (.str _ _) (.cons (.str _ _) .nil))) shpz shpz hu ?_
  simp only [PyData.eqv, PyData.eqvAll, beq_self_eq_true, Bool.and_true, Bool.not_true]
  exact h
end
end Mine
end CM

section P3
set_option maxHeartbeats 4000000
namespace Mine
open PySem PySem.W PySem.Spec PySem.Calls PyProof.Rows

theorem turn_nil {g g' : Heap} (T : KtsTurn [] g g') (b : Addr) : g'.get? b = g.get? b := by
  cases e : g.get? b with
  | none => exact T.none_ b e
  | some o => exact T.other b o e (fun h => nomatch h)
theorem fr_unturn {g g' h : Heap} {L : Addr} {m : Str → Option Value} (T : KtsTurn [] g g') (F : Fr g' L h m) : Fr g L h m :=
  ⟨F.ns, fun b o e => F.keep b o ((turn_nil T b).trans e), by rw [← T.size]; exact F.above⟩
theorem news_unturn {g g' h : Heap} {L : Addr} {l : List (Addr × Obj)} (T : KtsTurn [] g g') (N : News g' L h l) : News g L h l :=
  fun p hp => ⟨(N p hp).1, (N p hp).2.1, (turn_nil T p.1).symm.trans (N p hp).2.2⟩
section
variable {prog : Program} {w : World} {A : Around} {E : Value → Shared → Prop} {s : Shared} {env : Env} {h₀ : Heap} {x : Str} {body : List Stmt} {Q : Flow → Shared → Prop}
theorem loop_codes {l P : Addr} {qual : Str} {vs : List Value} {ns : List Int} {nn : Nat} {m₀ : Str → Option Value} {base₀ : List (Addr × Obj)} {ps₀ : Array Value}
    (hh : A.handled = none) (hl : (l, W.listOf vs.toArray nn) ∈ base₀) (hi : IntsAre vs ns) (F : Fr h₀ env.locals s.heap m₀) (N : News h₀ env.locals s.heap ((P, tabObj ps₀) :: base₀)) (I0 : TabI qual P ps₀ base₀) (off : ∀ p ∈ base₀, p.1 ≠ P)
    (turn : ∀ (n : Int) (t : Tok) (h : Heap) (tk : Nat) (ps : Array Value) (codes : List (Addr × Obj)) (Q' : Flow → Shared → Prop), Fr h₀ env.locals h (fun y => if y = x then some (.int n t) else m₀ y) → News h₀ env.locals h ((P, tabObj ps) :: codes) → TabI qual P ps codes → (∀ p ∈ base₀, p ∈ codes) → (∀ p ∈ codes, p.1 ≠ P) →
      (∀ h' tk' ps' codes' t', Fr h₀ env.locals h' (fun y => if y = x then some (.int n t') else m₀ y) → News h₀ env.locals h' ((P, tabObj ps') :: codes') → TabI qual P ps' codes' → (∀ p ∈ codes, p ∈ codes') → (∀ p ∈ codes', p.1 ≠ P) → Q' .next { s with heap := h', toks := tk' }) →
      wpAny (model prog w) A (execs body env) Q' E { s with heap := h, toks := tk })
    (done : ∀ (u : Option Value) (h : Heap) (tk : Nat) (ps : Array Value) (codes : List (Addr × Obj)), Fr h₀ env.locals h (fun y => if y = x then u else m₀ y) → News h₀ env.locals h ((P, tabObj ps) :: codes) → (∀ p ∈ base₀, p ∈ codes) → Q .next { s with heap := h, toks := tk }) :
    wpAny (model prog w) A (pyIter (.ref l)) (fun it s₂ => LoopAtV prog w A h₀ env x body Q E it s₂) E s := by
  have hol : s.heap.get? l = some (W.listOf vs.toArray nn) := (N _ (.tail _ hl)).1
  have hls : s.heap.IsList l vs.toArray := ⟨_, hol, rfl, nn, rfl⟩
  have hne : l ≠ s.heap.objs.size := Nat.ne_of_lt (Heap.lt_size hol)
  refine wpAny_pyIter_list hls ?_
  have W := Walks.list (prog := prog) (w := w) hh s.heap.objs.size l hne vs.toArray
  have hlen : vs.toArray.size = ns.length := by simp [hi.length]
  rw [hlen] at W
  have hP : @LT.lt Nat _ P s.heap.objs.size := Heap.lt_size (N _ (.head _)).1
  have hB : ∀ p ∈ base₀, @LT.lt Nat _ p.1 s.heap.objs.size := fun p hp => Heap.lt_size (N p (.tail _ hp)).1
  let J : Nat → (Str → Option Value) → List (Addr × Obj) → Prop := fun _ m nx => ∃ ps codes, nx = (P, tabObj ps) :: codes ∧ TabI qual P ps codes ∧ (∀ p ∈ base₀, p ∈ codes) ∧ (∀ p ∈ codes, p.1 ≠ P) ∧ ∀ y, y ≠ x → m y = m₀ y
  refine ⟨_, _, _, ns.length, _, _, m₀, (P, tabObj ps₀) :: base₀, J, rfl, W, ?_, ?_, ?_, ⟨⟨_, Heap.get?_push_size _ rfl, rfl, rfl⟩, hls.at fun o e => Heap.get?_push_of_some _ e⟩, F.push _, (fun p hp => ⟨Heap.get?_push_of_some _ (N p hp).1, (N p hp).2⟩), ⟨ps₀, base₀, rfl, I0, fun _ h => h, off, fun _ _ => rfl⟩, ?_, ?_⟩
  · intro hm
    rcases List.mem_cons.mp hm with e | hm
    · exact absurd F.ns.lt (e ▸ Nat.lt_irrefl _)
    · exact (N _ (.tail _ hl)).2.1 ((List.mem_singleton.mp hm).symm)
  · intro b hb
    rw [List.mem_singleton.mp hb]
    exact next_is_new F
  · intro p hp hI
    exact absurd (Heap.lt_size (N p hp).1) ((List.mem_singleton.mp hI) ▸ Nat.lt_irrefl _)
  · rintro i v m₁ news₁ s₁ own ⟨hh', tk', rfl⟩ hin hPv ⟨ps, codes, rfl, hT, hb, ho, hm⟩ hoff hown hget hfp hst F₁ N₁
    have hlt' : i < ns.length := hin
    obtain ⟨t, hx⟩ := hi.get i ns[i] (by simp [hlt'])
    have hv : v = .int ns[i] t := by
      have hP' : vs[i]? = some v := by simpa using hPv
      rw [hx] at hP'; exact (Option.some.inj hP').symm
    subst hv
    obtain ⟨oi, hoi, hci, hdi⟩ := hst.1
    have hIo : (s.heap.objs.size, oi) ∈ own := hfp _ (.head _) (next_is_new F) _ hoi
    have e : (fun z => if z = x then some (Value.int ns[i] t) else m₁ z) = fun z => if z = x then some (Value.int ns[i] t) else m₀ z := by
      funext z
      by_cases h1 : z = x
      · simp [h1]
      · simp only [if_neg h1]; exact hm z h1
    rw [e] at F₁
    have N₂ : News h₀ env.locals hh' ((P, tabObj ps) :: (own ++ codes)) := fun p hp => N₁ p (by
      rcases List.mem_cons.mp hp with rfl | hp
      · exact List.mem_append.mpr (.inr (.head _))
      · rcases List.mem_append.mp hp with hp | hp
        · exact List.mem_append.mpr (.inl hp)
        · exact List.mem_append.mpr (.inr (.tail _ hp)))
    refine turn ns[i] t hh' tk' ps (own ++ codes) _ F₁ N₂ (hT.mono fun p hp => List.mem_append.mpr (.inr hp)) (fun p hp => List.mem_append.mpr (.inr (hb p hp))) (fun p hp => ?_) ?_
    · rcases List.mem_append.mp hp with hp | hp
      · rcases List.mem_cons.mp (hown p hp) with q | q
        · intro q'
          exact absurd hP (by rw [← q', q]; exact Nat.lt_irrefl _)
        · rw [List.mem_singleton.mp q]
          exact off _ hl
      · exact ho p hp
    · intro h' tk₂ ps' codes' t' F' N' hT' hs' ho'
      refine LoopStepV.next ⟨rfl, h', tk₂, _, (P, tabObj ps') :: codes'.filter (fun p => decide (p.1 ≠ s.heap.objs.size)), rfl, F', fun p hp => ?_, fun p hp hI => ?_, ⟨ps', _, rfl, ⟨hT'.1, fun pos v e => ?_⟩, fun p hp => ?_, fun p hp => ?_, fun y hy => by simp only [if_neg hy]⟩⟩
      · rcases List.mem_append.mp hp with hp | hp
        · exact N' p (.tail _ (hs' p (List.mem_append.mpr (.inl hp))))
        · rcases List.mem_cons.mp hp with rfl | hp
          · exact N' _ (.head _)
          · exact N' p (.tail _ (List.mem_filter.mp hp).1)
      · have hI' := List.mem_singleton.mp hI
        rcases List.mem_cons.mp hp with rfl | hp
        · exact absurd hP (by rw [show P = s.heap.objs.size from hI']; exact Nat.lt_irrefl _)
        · exact absurd hI' (by simpa using (List.mem_filter.mp hp).2)
      · obtain ⟨c', oc, q, hmem, hcP, hcode⟩ := hT'.2 pos v e
        refine ⟨c', oc, q, List.mem_filter.mpr ⟨hmem, ?_⟩, hcP, hcode⟩
        refine decide_eq_true fun hcI => ?_
        obtain ⟨ws, tt, hd, hv⟩ := hcode
        have h1 := (N' _ (.tail _ hmem)).1
        have h2 := (N' _ (.tail _ (hs' _ (List.mem_append.mpr (.inl hIo))))).1
        rw [show ((c', oc) : Addr × Obj).1 = s.heap.objs.size from hcI] at h1
        rw [show ((s.heap.objs.size, oi) : Addr × Obj).1 = s.heap.objs.size from rfl, h1] at h2
        have h3 : oc = oi := Option.some.inj h2
        rw [h3] at hd
        rw [hdi] at hd
        have h4 : ws = _ := (Data.fields.inj hd).symm
        rw [h4] at hv
        simp at hv
      · exact List.mem_filter.mpr ⟨hs' p (List.mem_append.mpr (.inr (hb p hp))), decide_eq_true (Nat.ne_of_lt (hB p hp))⟩
      · exact ho' p (List.mem_filter.mp hp).1
  · rintro h' tk' m' news' F' N' _ ⟨ps, codes, rfl, hT, hb, ho, hm⟩
    have e : m' = fun z => if z = x then m' x else m₀ z := by
      funext z
      by_cases h1 : z = x
      · simp [h1]
      · simp only [if_neg h1]; exact hm z h1
    rw [e] at F'
    exact done _ h' tk' ps codes F' N' hb
end
end Mine
end P3

open PySem PySem.W PyProof.Rows PySem.Spec PySem.Calls
namespace Mine
local macro_rules | `(tactic| walk_at $s:str) => `(tactic| k_extra $s)
local macro_rules | `(tactic| k_mem) => `(tactic| ((show (_ : Addr × Obj) ∈ (_ : List (Addr × Obj))); ktr_member))
local macro_rules | `(tactic| mul_fits) => `(tactic| exact sgn_ok _ _ _)
local macro_rules | `(tactic| k_room) => `(tactic| ktr_room)
local macro_rules | `(tactic| k_all) => `(tactic| (tbn_letter; first | (refine' far_ne ?kh ?kl; (case kh => tbn_find); (case kl => omega)) | (refine' far_ne (allLt_of ?kh) ?kl; (case kh => assumption); (case kl => omega))))

section C2
open PySem PySem.W PyProof.Rows PySem.Spec PySem.Calls
set_option maxHeartbeats 8000000
theorem real_c {w : World} {mean : ExcName → Option Value} {mg mb : Str → Option Value} {news : List (Addr × Obj)} {a e : Int} {ta te : Tok} {dp un : Nat} {gd : Option (List Code)} {cn : Str} {cs : Scope} {aa : Addr} {ccd : Value} {cl : List (Str × Addr)} {outer : List Env} {A₀ : Around} {base h₀ : Heap} {L : Addr} {m : Str → Option Value} {s : Shared} {Q E : Value → Shared → Prop}
    (B : Below A₀ base outer h₀) (F : Fr h₀ L s.heap m) (X0 : (hd.heap_39 w.params).In h₀) (N : News h₀ L s.heap news) (T : Top topProg LS mean mg mb h₀) (hk : cs.kind = .function) (hdp : dp + 8 < recursionLimit) (hun : un + 64 < cLine)
    (hOk : OkC w h₀ L m news s Q a e) :
    wpAny (model PySem.Challenge.rw_nt0161_01.row.prog w) (ktrTop dp un gd cn cs L aa ccd cl outer) (call (.ref 89) [.int a ta, .int e te]) Q E s := by
  revert X0; k_fill; intro X0
  k_dflt (refine' call_cls ?k1 ?k2 ?k3 ?k4 ?k5 ?k6 ?_; (case k1 => k_asm); (case k2 => k_asm); (case k3 => k_asm); (case k4 => k_is); (case k5 => k_is); (case k6 => k_is); k_whole; intro x' d' h' F' N' l1 l2; (try k_lt l1); (try k_lt2 l2))
  clear F N
  k_dflt cell_enter
  k_steps
  all_goals
    (refine' okc_use hOk ?kzF ?kzN ?kzS ?kzA ?kzl
     case kzF => with_reducible assumption
     case kzN => with_reducible assumption
     case kzS => (intro kp kq; (repeat (first | exact kq | apply List.Mem.tail)))
     case kzA => first | assumption | tbn_find | exact allLt_of (by assumption)
     case kzl => first | assumption | omega)
theorem size_c {w : World} {mean : ExcName → Option Value} {mg mb : Str → Option Value} {news : List (Addr × Obj)} {n : Int} {tn : Tok} {dp un : Nat} {gd : Option (List Code)} {cn : Str} {cs : Scope} {aa : Addr} {ccd : Value} {cl : List (Str × Addr)} {outer : List Env} {A₀ : Around} {base h₀ : Heap} {L : Addr} {m : Str → Option Value} {s : Shared} {Q E : Value → Shared → Prop}
     (B : Below A₀ base outer h₀) (F : Fr h₀ L s.heap m) (X0 : (hd.heap_39 w.params).In h₀) (N : News h₀ L s.heap news) (T : Top topProg LS mean mg mb h₀) (hk : cs.kind = .function) (hdp : dp + 8 < recursionLimit) (hun : un + 64 < cLine)
    (hV : ∀ (t : Tok) (h' : Heap) (tk' : Nat), Fr h₀ L h' m → News h₀ L h' news → Q (.int (((Builtin.Int.intBits (if n < 0 then -n else n) : Nat) : Int)) t) { s with heap := h', toks := tk' }) :
    wpAny (model PySem.Challenge.rw_nt0161_01.row.prog w) (ktrTop dp un gd cn cs L aa ccd cl outer) (call (.ref 100) [.int n tn]) Q E s := by
  revert X0; k_fill; intro X0
  refine wpAny_call ?_
  k_dflt cell_enter
  k_steps
  all_goals (refine' hV _ _ _ ?kzF ?kzN; (case kzF => with_reducible assumption); (case kzN => with_reducible assumption))
theorem sgw_c {w : World} {mean : ExcName → Option Value} {mg mb : Str → Option Value} {news : List (Addr × Obj)} {n : Int} {tn : Tok} {dp un : Nat} {gd : Option (List Code)} {cn : Str} {cs : Scope} {aa : Addr} {ccd : Value} {cl : List (Str × Addr)} {outer : List Env} {A₀ : Around} {base h₀ : Heap} {L : Addr} {m : Str → Option Value} {s : Shared} {Q E : Value → Shared → Prop}
     (B : Below A₀ base outer h₀) (F : Fr h₀ L s.heap m) (X0 : (hd.heap_39 w.params).In h₀) (N : News h₀ L s.heap news) (T : Top topProg LS mean mg mb h₀) (hk : cs.kind = .function) (hdp : dp + 8 < recursionLimit) (hun : un + 64 < cLine)
    (hV : ∀ (t : Tok) (h' : Heap) (tk' : Nat), Fr h₀ L h' m → News h₀ L h' news → Q (.int (b2i (decide (0 < n)) - b2i (decide (n < 0))) t) { s with heap := h', toks := tk' }) :
    wpAny (model PySem.Challenge.rw_nt0161_01.row.prog w) (ktrTop dp un gd cn cs L aa ccd cl outer) (call (.ref 107) [.int n tn]) Q E s := by
  revert X0; k_fill; intro X0
  refine wpAny_call ?_
  k_dflt cell_enter
  k_steps
  all_goals (refine' hV _ _ _ ?kzF ?kzN; (case kzF => with_reducible assumption); (case kzN => with_reducible assumption))
theorem say_C2 : True := by
  k_with_none
  w_top off
  k_with "ite" => (k_here; first
  | (refine ite_neg (by (try simp only [b2i, decide_eq_true_eq, Bool.not_eq_true, Bool.and_eq_true, Bool.or_eq_true, decide_eq_false_iff_not, beq_iff_eq, bne_iff_ne, ne_eq, Int.fmod_one, not_true_eq_false, not_false_eq_true, Bool.false_eq_true, Int.reduceToNat, Int.reduceSub, Int.reducePow, Int.reduceMul]); (first | done | omega)) ?_)
  | (refine ite_pos (by (try simp only [b2i, decide_eq_true_eq, Bool.not_eq_true, Bool.and_eq_true, Bool.or_eq_true, decide_eq_false_iff_not, beq_iff_eq, bne_iff_ne, ne_eq, Int.fmod_one, not_true_eq_false, not_false_eq_true, Bool.false_eq_true, Int.reduceToNat, Int.reduceSub, Int.reducePow, Int.reduceMul]); (first | done | omega)) ?_))
  k_with "leaving ref" => (k_here; (with_reducible rename FlyD _ _ _ _ _ _ _ _ => fdX); k_dflt (refine' leave_onD ?hf ?K ?F ?R ?U ?_; (case R => exact fdX); (case hf => exact rfl); (case K => k_asm); (case F => k_asm); (case U => k_asm); (try clear fdX); k_whole; intro h' R' U'))
  k_with "call ref" => (k_here; (with_reducible show wpAny _ _ (call (Value.ref 100) _ _) _ _ _); k_dflt (refine' size_c  ?B ?F ?X ?N ?T ?hk ?hdp ?hun ?_; (case B => k_asm); (case F => k_asm); (case X => k_asm); (case N => k_asm); (case T => k_asm);  (case hk => first | exact rfl | assumption); (case hdp => ktr_room); (case hun => ktr_units); (intro t' h' tk' F' N'); (try k_sweep); (try k_fold)))
  k_with "call ref" => (k_here; (with_reducible show wpAny _ _ (call (Value.ref 107) _ _) _ _ _); k_dflt (refine' sgw_c  ?B ?F ?X ?N ?T ?hk ?hdp ?hun ?_; (case B => k_asm); (case F => k_asm); (case X => k_asm); (case N => k_asm); (case T => k_asm);  (case hk => first | exact rfl | assumption); (case hdp => ktr_room); (case hun => ktr_units); (intro t' h' tk' F' N'); (try k_sweep); (try k_fold)))
  trivial
theorem place_c {w : World} {mean : ExcName → Option Value} {mg mb : Str → Option Value} {news : List (Addr × Obj)} {x dx : Addr} {a ea : Int} {k1 k2 u1 u2 : Tok} {dp un : Nat} {gd : Option (List Code)} {cn : Str} {cs : Scope} {aa : Addr} {ccd : Value} {cl : List (Str × Addr)} {outer : List Env} {A₀ : Around} {base h₀ : Heap} {L : Addr} {m : Str → Option Value} {s : Shared} {Q E : Value → Shared → Prop}
    (hx : (x, instObj 89 dx) ∈ news) (hdx : (dx, realD w.params k1 k2 a u1 ea u2) ∈ news) (B : Below A₀ base outer h₀) (F : Fr h₀ L s.heap m) (X0 : (hd.heap_39 w.params).In h₀) (N : News h₀ L s.heap news) (T : Top topProg LS mean mg mb h₀) (hk : cs.kind = .function) (hdp : dp + 12 < recursionLimit) (hun : un + 96 < cLine)
    (hV : ∀ (t : Tok) (h' : Heap) (tk' : Nat), Fr h₀ L h' m → News h₀ L h' news → Q (.int (((Builtin.Int.intBits (if a < 0 then -a else a) : Nat) : Int) + ea) t) { s with heap := h', toks := tk' }) :
    wpAny (model PySem.Challenge.rw_nt0161_01.row.prog w) (ktrTop dp un gd cn cs L aa ccd cl outer) (call (.ref 156) [.ref x]) Q E s := by
  revert X0; k_fill; intro X0
  refine wpAny_call ?_
  k_dflt cell_enter
  k_steps
  all_goals (refine' hV _ _ _ ?kzF ?kzN; (case kzF => with_reducible assumption); (case kzN => with_reducible assumption))
theorem sgn_c {w : World} {mean : ExcName → Option Value} {mg mb : Str → Option Value} {news : List (Addr × Obj)} {x dx : Addr} {a ea : Int} {k1 k2 u1 u2 : Tok} {dp un : Nat} {gd : Option (List Code)} {cn : Str} {cs : Scope} {aa : Addr} {ccd : Value} {cl : List (Str × Addr)} {outer : List Env} {A₀ : Around} {base h₀ : Heap} {L : Addr} {m : Str → Option Value} {s : Shared} {Q E : Value → Shared → Prop}
    (hx : (x, instObj 89 dx) ∈ news) (hdx : (dx, realD w.params k1 k2 a u1 ea u2) ∈ news) (B : Below A₀ base outer h₀) (F : Fr h₀ L s.heap m) (X0 : (hd.heap_39 w.params).In h₀) (N : News h₀ L s.heap news) (T : Top topProg LS mean mg mb h₀) (hk : cs.kind = .function) (hdp : dp + 12 < recursionLimit) (hun : un + 96 < cLine)
    (hV : ∀ (t : Tok) (h' : Heap) (tk' : Nat), Fr h₀ L h' m → News h₀ L h' news → Q (.int (b2i (decide (0 < a)) - b2i (decide (a < 0))) t) { s with heap := h', toks := tk' }) :
    wpAny (model PySem.Challenge.rw_nt0161_01.row.prog w) (ktrTop dp un gd cn cs L aa ccd cl outer) (call (.ref 163) [.ref x]) Q E s := by
  revert X0; k_fill; intro X0
  refine wpAny_call ?_
  k_dflt cell_enter
  k_steps
  all_goals (refine' hV _ _ _ ?kzF ?kzN; (case kzF => with_reducible assumption); (case kzN => with_reducible assumption))
end C2

section C3
open PySem PySem.W PyProof.Rows PySem.Spec PySem.Calls
set_option maxHeartbeats 8000000
theorem say_C3 : True := by
  k_with_none
  w_top off
  k_with "exec Raise some none" => (k_here; (with_reducible show wpAny _ _ (exec (Stmt.Raise (some (Expr.Call (Expr.Name ("OutOfRange" : Str) _) _ _ _)) none _) _) _ _ _); k_dflt (refine' ex_raise (C := 51) ?hX ?hh ?hb ?ht ?_; (case hX => k_asm); (case hh => exact rfl); (case hb => k_is); (case ht => k_is)))
  k_with "exec Raise some none" => (k_here; (with_reducible show wpAny _ _ (exec (Stmt.Raise (some (Expr.Call (Expr.Name ("DivisionByZero" : Str) _) _ _ _)) none _) _) _ _ _); k_dflt (refine' ex_raise (C := 70) ?hX ?hh ?hb ?ht ?_; (case hX => k_asm); (case hh => exact rfl); (case hb => k_is); (case ht => k_is)))
  k_with "ExUp" => (k_here; k_dflt (refine' exUp_of ?F ?X ?N ?hx ?hcl ?hd ?h1 ?_; (case F => k_asm); (case X => k_asm); (case N => k_asm); (case hx => k_mem); (case hcl => exact rfl); (case hd => exact rfl); (case h1 => exact rfl); k_whole))
  k_with "call ref" => (k_here; (with_reducible show wpAny _ _ (call (Value.ref _) _ _) (ExUp _ _ _) _ _); k_dflt (refine' ex_make ?k1 ?k2 ?k3 ?k4 ?k5 ?k6 ?k7 ?_; (case k1 => k_asm); (case k2 => k_asm); (case k3 => k_asm); (case k4 => first | exact exIn_51 _ | exact exIn_70 _); (case k5 => k_is); (case k6 => k_is); (case k7 => size_fits); k_whole; intro x' d' h' F' N' l1 l2; (try k_lt l1); (try k_lt2 l2); (try k_sweep); k_enter))
  k_with "setAttr ref" => (k_here; k_dflt (first
  | (refine' ex_set0 ?k1 ?k2 ?k3 ?k4 ?k5 ?k6 ?k7 ?k8 ?k9 ?k10 ?k11 ?_; (case k1 => k_asm); (case k2 => k_asm); (case k3 => k_asm); (case k4 => k_mem); (case k5 => exact rfl); (case k6 => exact rfl); (case k7 => exact rfl); (case k8 => k_is); (case k9 => first | exact exOver_51 _ | exact exOver_70 _); (case k10 => k_is); (case k11 => k_updF); k_whole; intro dx' h' kk' F' N' l1; (try dsimp only at N'); (try k_lt l1); (try k_sweep))
  | (refine' ex_set ?k1 ?k2 ?k3 ?k4 ?k5 ?k6 ?k7 ?k8 ?k9 ?k10 ?k11 ?k12 ?k13 ?k14 ?k15 ?_; (case k1 => k_asm); (case k2 => k_asm); (case k3 => k_asm); (case k4 => k_mem); (case k5 => exact rfl); (case k6 => exact rfl); (case k7 => exact rfl); (case k8 => k_mem); (case k9 => k_is); (case k10 => first | exact exOver_51 _ | exact exOver_70 _); (case k11 => k_is); (case k12 => k_get); (case k13 => k_put); (case k14 => k_upd); (case k15 => exact Nat.le_of_ble_eq_true rfl); k_whole; intro h' F' N'; (try k_sweep))))
  k_with "leaving ref" => (k_here; k_dflt (refine' leave_first2 (od := dictOf _ _) (ol := W.listOf _ _) (old := _) ?hf ?hk ?K ?F ?N ?hx ?hcl ?hd ?h0 ?h1 ?hdi ?hde ?hli ?ne ?ne2 ?hold ?hoff ?_; (case hf => exact rfl); (case hk => exact rfl); (case K => k_asm); (case F => k_asm); (case N => k_asm); (case hx => k_mem); (case hcl => exact rfl); (case hd => exact rfl); (case h0 => exact rfl); (case h1 => exact rfl); (case hdi => exact rfl); (case hde => k_mem); (case hli => k_mem); (case ne => (intro q; cases q)); (case ne2 => (intro q; cases q)); (case hold => exact sub5); (case hoff => k_all); k_whole; intro h' R' U'))
  k_with "call ref" => (k_here; (with_reducible show wpAny _ _ (call (Value.ref 89) [Value.int _ _, Value.int _ _] _) _ _ _); k_dflt (refine' real_c ?B ?F ?X ?N ?T ?hk ?hdp ?hun ?_; (case B => k_asm); (case F => k_asm); (case X => k_asm); (case N => k_asm); (case T => k_asm); (case hk => first | exact rfl | assumption); (case hdp => ktr_room); (case hun => ktr_units); (intro x' d' k1' k2' t1' t2' h' tk' F' N' l1' l2'); (try simp only [AllLt, and_true] at l1'); (try k_sweep); (try k_fold)))
  k_with "call ref" => (k_here; (with_reducible show wpAny _ _ (call (Value.ref 100) _ _) _ _ _); k_dflt (refine' size_c  ?B ?F ?X ?N ?T ?hk ?hdp ?hun ?_; (case B => k_asm); (case F => k_asm); (case X => k_asm); (case N => k_asm); (case T => k_asm);  (case hk => first | exact rfl | assumption); (case hdp => ktr_room); (case hun => ktr_units); (intro t' h' tk' F' N'); (try k_sweep); (try k_fold)))
  k_with "call ref" => (k_here; (with_reducible show wpAny _ _ (call (Value.ref 107) _ _) _ _ _); k_dflt (refine' sgw_c  ?B ?F ?X ?N ?T ?hk ?hdp ?hun ?_; (case B => k_asm); (case F => k_asm); (case X => k_asm); (case N => k_asm); (case T => k_asm);  (case hk => first | exact rfl | assumption); (case hdp => ktr_room); (case hun => ktr_units); (intro t' h' tk' F' N'); (try k_sweep); (try k_fold)))
  trivial
theorem lean_c {w : World} {mean : ExcName → Option Value} {mg mb : Str → Option Value} {n e : Int} {t t2 : Tok} {news : List (Addr × Obj)} {o ex pl : Int} (D : Dec n e o ex pl)
  {dp un : Nat} {gd : Option (List Code)} {cn : Str} {cs : Scope} {a : Addr} {ccd : Value} {cl : List (Str × Addr)} {outer : List Env} {A₀ : Around} {base h₀ : Heap} {L : Addr} {m : Str → Option Value} {s : Shared} {Q E : Value → Shared → Prop}
    (B : Below A₀ base outer h₀) (F : Fr h₀ L s.heap m) (X : (hd.heap_39 w.params).In h₀) (N : News h₀ L s.heap news) (T : Top topProg LS mean mg mb h₀) (hk : cs.kind = .function) (hdp : dp + 10 < recursionLimit) (hun : un + 80 < cLine)
    (hOk : -65536 ≤ pl → pl ≤ 65536 → OkC w h₀ L m news s Q o ex) (hBad : (pl < -65536 ∨ 65536 < pl) → BadC base h₀ L m (envX cn cs L a ccd cl :: outer) news s E pl) :
      wpAny (model PySem.Challenge.rw_nt0161_01.row.prog w) (ktrTop dp un gd cn cs L a ccd cl outer) (call (.ref 121) [.int n t, .int e t2]) Q E s := by
  revert X; k_fill; intro X
  obtain ⟨hn, hz, rfl, rfl, rfl⟩ := D
  dsimp only [zbI, szI] at hz hOk hBad
  refine wpAny_call ?_
  k_dflt cell_enter
  k_steps
  all_goals (try (exfalso; omega))
  · refine' hBad ?b _ _ _ _ _ _ _ _ _ _ _ ?F ?R ?g ?U
    case b => split at * <;> omega
    case F => k_asm
    case R => k_asm
    case g => k_get
    case U => k_asm
  · refine' hOk ?b ?c _ _ _ _ _ _ _ _ ?F ?N ?A ?l
    case b => split at * <;> omega
    case c => split at * <;> omega
    case F => k_asm
    case N =>
      refine cb_drop (by k_asm) ?_
      kcj_all
    case A => tbn_find
    case l => omega
end C3

section C5
open PySem PySem.W PyProof.Rows PySem.Spec PySem.Calls
set_option maxHeartbeats 8000000
theorem say_C5 : True := by
  k_with_none
  w_top off
  k_with "ite" => (k_here; first
  | (refine ite_neg (by (try simp only [b2i, decide_eq_true_eq, Bool.not_eq_true, Bool.and_eq_true, Bool.or_eq_true, decide_eq_false_iff_not, beq_iff_eq, bne_iff_ne, ne_eq, Int.fmod_one, not_true_eq_false, not_false_eq_true, Bool.false_eq_true, Int.reduceToNat, Int.reduceSub, Int.reducePow, Int.reduceMul]); (first | done | omega)) ?_)
  | (refine ite_pos (by (try simp only [b2i, decide_eq_true_eq, Bool.not_eq_true, Bool.and_eq_true, Bool.or_eq_true, decide_eq_false_iff_not, beq_iff_eq, bne_iff_ne, ne_eq, Int.fmod_one, not_true_eq_false, not_false_eq_true, Bool.false_eq_true, Int.reduceToNat, Int.reduceSub, Int.reducePow, Int.reduceMul]); (first | done | omega)) ?_))
  k_with "leaving ref" => (k_here; (with_reducible rename FlyD _ _ _ _ _ _ _ _ => fdX); k_dflt (refine' leave_onD ?hf ?K ?F ?R ?U ?_; (case R => exact fdX); (case hf => exact rfl); (case K => k_asm); (case F => k_asm); (case U => k_asm); (try clear fdX); k_whole; intro h' R' U'))
  k_with "call ref" => (k_here; (with_reducible show wpAny _ _ (call (Value.ref 100) _ _) _ _ _); k_dflt (refine' size_c  ?B ?F ?X ?N ?T ?hk ?hdp ?hun ?_; (case B => k_asm); (case F => k_asm); (case X => k_asm); (case N => k_asm); (case T => k_asm);  (case hk => first | exact rfl | assumption); (case hdp => ktr_room); (case hun => ktr_units); (intro t' h' tk' F' N'); (try k_sweep); (try k_fold)))
  k_with "call ref" => (k_here; (with_reducible show wpAny _ _ (call (Value.ref 107) _ _) _ _ _); k_dflt (refine' sgw_c  ?B ?F ?X ?N ?T ?hk ?hdp ?hun ?_; (case B => k_asm); (case F => k_asm); (case X => k_asm); (case N => k_asm); (case T => k_asm);  (case hk => first | exact rfl | assumption); (case hdp => ktr_room); (case hun => ktr_units); (intro t' h' tk' F' N'); (try k_sweep); (try k_fold)))
  k_with "call ref" => (k_here; (with_reducible show wpAny _ _ (call (Value.ref 121) _ _) _ _ _); k_dflt (refine' lean_c ?D ?B ?F ?X ?N ?T ?hk ?hdp ?hun ?_ ?_; (case B => k_asm); (case F => k_asm); (case X => k_asm); (case N => k_asm); (case T => k_asm); (case D => assumption); (case hk => first | exact rfl | assumption); (case hdp => ktr_room); (case hun => ktr_units); (intro b1' b2' x' d' k1' k2' t1' t2' h' tk' F' N' l1' l2'); (try simp only [AllLt, and_true] at l1'); rotate_left; (intro b1' g' e' d' li' es' n' t1' t2' t3' h' tk' FG' R' gL' U'); rotate_left; (all_goals (try k_fold))))
  trivial
theorem shr_c1 {w : World} {mean : ExcName → Option Value} {mg mb : Str → Option Value} {news : List (Addr × Obj)} {p M X o ex pl : Int} {tp tM tX : Tok} {dp un : Nat} {gd : Option (List Code)} {cn : Str} {cs : Scope} {a : Addr} {ccd : Value} {cl : List (Str × Addr)} {outer : List Env} {A₀ : Around} {base h₀ : Heap} {L : Addr} {m : Str → Option Value} {s : Shared} {Q E : Value → Shared → Prop}
    (D : Dec M X o ex pl) (hp : szI M ≤ p) (B : Below A₀ base outer h₀) (F : Fr h₀ L s.heap m) (X0 : (hd.heap_39 w.params).In h₀) (N : News h₀ L s.heap news) (T : Top topProg LS mean mg mb h₀) (hk : cs.kind = .function) (hdp : dp + 14 < recursionLimit) (hun : un + 112 < cLine)
    (hOk : -65536 ≤ pl → pl ≤ 65536 → OkC w h₀ L m news s Q o ex) (hBad : (pl < -65536 ∨ 65536 < pl) → BadC base h₀ L m (envX cn cs L a ccd cl :: outer) news s E pl) :
    wpAny (model PySem.Challenge.rw_nt0161_01.row.prog w) (ktrTop dp un gd cn cs L a ccd cl outer) (call (.ref 135) [.int p tp, .int M tM, .int X tX]) Q E s := by
  revert X0; k_fill; intro X0
  dsimp only [szI] at hp
  refine wpAny_call ?_
  k_dflt cell_enter
  k_steps
  all_goals first
    | (refine' okc_use (hOk (by assumption) (by assumption)) ?kzF ?kzN ?kzS ?kzA ?kzl
       case kzF => with_reducible assumption
       case kzN => with_reducible assumption
       case kzS => (intro kp kq; (repeat (first | exact kq | apply List.Mem.tail)))
       case kzA => first | assumption | tbn_find | exact allLt_of (by assumption)
       case kzl => first | assumption | omega)
    | (refine' badc_use (hBad (by assumption)) ?kzF ?kzR ?kzS ?kzg ?kzU
       case kzF => with_reducible assumption
       case kzR => with_reducible assumption
       case kzS => (intro kp kq; (repeat (first | exact kq | apply List.Mem.tail)))
       case kzg => first | assumption | k_get
       case kzU => with_reducible assumption)
    | (exfalso; omega)
end C5

section C7
open PySem PySem.W PyProof.Rows PySem.Spec PySem.Calls
set_option maxHeartbeats 8000000
theorem say_C7 : True := by
  k_with_none
  w_top off
  k_with "ite" => (k_here; first
  | (refine ite_neg (by (try simp only [decide_eq_true_eq, Bool.not_eq_true, Bool.and_eq_true, Bool.or_eq_true, decide_eq_false_iff_not, beq_iff_eq, bne_iff_ne, ne_eq, Int.fmod_one, not_true_eq_false, not_false_eq_true, Bool.false_eq_true, Int.reduceToNat, Int.reduceSub, Int.reducePow, Int.reduceMul]); (first | done | omega)) ?_)
  | (refine ite_pos (by (try simp only [decide_eq_true_eq, Bool.not_eq_true, Bool.and_eq_true, Bool.or_eq_true, decide_eq_false_iff_not, beq_iff_eq, bne_iff_ne, ne_eq, Int.fmod_one, not_true_eq_false, not_false_eq_true, Bool.false_eq_true, Int.reduceToNat, Int.reduceSub, Int.reducePow, Int.reduceMul]); (first | done | omega)) ?_))
  k_with "leaving ref" => (k_here; (with_reducible rename FlyD _ _ _ _ _ _ _ _ => fdX); k_dflt (refine' leave_onD ?hf ?K ?F ?R ?U ?_; (case R => exact fdX); (case hf => exact rfl); (case K => k_asm); (case F => k_asm); (case U => k_asm); (try clear fdX); k_whole; intro h' R' U'))
  trivial
theorem nsh_c {w : World} {mean : ExcName → Option Value} {mg mb : Str → Option Value} {news : List (Addr × Obj)} {n gone : Int} {tn tg : Tok} {dp un : Nat} {gd : Option (List Code)} {cn : Str} {cs : Scope} {a : Addr} {ccd : Value} {cl : List (Str × Addr)} {outer : List Env} {A₀ : Around} {base h₀ : Heap} {L : Addr} {m : Str → Option Value} {s : Shared} {Q E : Value → Shared → Prop}
    (hg : gone = 4) (h0 : 0 ≤ n) (hm : n % 16 = 0) (B : Below A₀ base outer h₀) (F : Fr h₀ L s.heap m) (X0 : (hd.heap_39 w.params).In h₀) (N : News h₀ L s.heap news) (T : Top topProg LS mean mg mb h₀) (hk : cs.kind = .function) (hdp : dp + 10 < recursionLimit) (hun : un + 80 < cLine)
    (hret : ∀ t h' tk', Fr h₀ L h' m → News h₀ L h' news → Q (.int (n / 16) t) { s with heap := h', toks := tk' }) :
    wpAny (model PySem.Challenge.rw_nt0161_01.row.prog w) (ktrTop dp un gd cn cs L a ccd cl outer) (call (.ref 128) [.int n tn, .int gone tg]) Q E s := by
  revert X0; k_fill; intro X0
  subst hg
  have hr : Builtin.bitAnd n 15 = 0 := by rw [show (15 : Int) = 2 ^ 4 - 1 from rfl, kbt_mask]; exact hm
  refine wpAny_call ?_
  k_dflt cell_enter
  k_steps
  all_goals exact cb_retI hret (by rw [Int.fdiv_eq_ediv_of_nonneg _ (by decide)]; rfl) (by k_asm) (by first | k_asm | (refine cb_drop (by k_asm) ?_; kcj_all))
end C7

section C8
open PySem PySem.W PyProof.Rows PySem.Spec PySem.Calls
set_option maxHeartbeats 8000000
theorem say_C8 : True := by
  k_with_none
  w_top off
  k_with "ite" => (k_here; first
  | (refine ite_neg (by (try simp only [b2i, decide_eq_true_eq, Bool.not_eq_true, Bool.and_eq_true, Bool.or_eq_true, decide_eq_false_iff_not, beq_iff_eq, bne_iff_ne, ne_eq, Int.fmod_one, not_true_eq_false, not_false_eq_true, Bool.false_eq_true, Int.reduceToNat, Int.reduceSub, Int.reducePow, Int.reduceMul]); (first | done | omega)) ?_)
  | (refine ite_pos (by (try simp only [b2i, decide_eq_true_eq, Bool.not_eq_true, Bool.and_eq_true, Bool.or_eq_true, decide_eq_false_iff_not, beq_iff_eq, bne_iff_ne, ne_eq, Int.fmod_one, not_true_eq_false, not_false_eq_true, Bool.false_eq_true, Int.reduceToNat, Int.reduceSub, Int.reducePow, Int.reduceMul]); (first | done | omega)) ?_))
  k_with "leaving ref" => (k_here; (with_reducible rename FlyD _ _ _ _ _ _ _ _ => fdX); k_dflt (refine' leave_onD ?hf ?K ?F ?R ?U ?_; (case R => exact fdX); (case hf => exact rfl); (case K => k_asm); (case F => k_asm); (case U => k_asm); (try clear fdX); k_whole; intro h' R' U'))
  k_with "call ref" => (k_here; (with_reducible show wpAny _ _ (call (Value.ref 100) _ _) _ _ _); k_dflt (refine' size_c  ?B ?F ?X ?N ?T ?hk ?hdp ?hun ?_; (case B => k_asm); (case F => k_asm); (case X => k_asm); (case N => k_asm); (case T => k_asm);  (case hk => first | exact rfl | assumption); (case hdp => ktr_room); (case hun => ktr_units); (intro t' h' tk' F' N'); (try k_sweep); (try k_fold)))
  k_with "call ref" => (k_here; (with_reducible show wpAny _ _ (call (Value.ref 107) _ _) _ _ _); k_dflt (refine' sgw_c  ?B ?F ?X ?N ?T ?hk ?hdp ?hun ?_; (case B => k_asm); (case F => k_asm); (case X => k_asm); (case N => k_asm); (case T => k_asm);  (case hk => first | exact rfl | assumption); (case hdp => ktr_room); (case hun => ktr_units); (intro t' h' tk' F' N'); (try k_sweep); (try k_fold)))
  k_with "call ref" => (k_here; (with_reducible show wpAny _ _ (call (Value.ref 121) _ _) _ _ _); k_dflt (refine' lean_c ?D ?B ?F ?X ?N ?T ?hk ?hdp ?hun ?_ ?_; (case B => k_asm); (case F => k_asm); (case X => k_asm); (case N => k_asm); (case T => k_asm); (case D => assumption); (case hk => first | exact rfl | assumption); (case hdp => ktr_room); (case hun => ktr_units); (intro b1' b2' x' d' k1' k2' t1' t2' h' tk' F' N' l1' l2'); (try simp only [AllLt, and_true] at l1'); rotate_left; (intro b1' g' e' d' li' es' n' t1' t2' t3' h' tk' FG' R' gL' U'); rotate_left; (all_goals (try k_fold))))
  k_with "call ref" => (k_here; (with_reducible show wpAny _ _ (call (Value.ref 128) _ _) _ _ _); k_dflt (refine' nsh_c ?g ?z ?d ?B ?F ?X ?N ?T ?hk ?hdp ?hun ?_; (case g => assumption); (case z => assumption); (case d => assumption); (case B => k_asm); (case F => k_asm); (case X => k_asm); (case N => k_asm); (case T => k_asm); (case hk => first | exact rfl | assumption); (case hdp => ktr_room); (case hun => ktr_units); intro t9 h9 tk9 F9 N9; (try k_fold)))
  trivial
theorem shr_c2 {w : World} {mean : ExcName → Option Value} {mg mb : Str → Option Value} {news : List (Addr × Obj)} {p M X top : Int} {tp tM tX : Tok} {dp un : Nat} {gd : Option (List Code)} {cn : Str} {cs : Scope} {a : Addr} {ccd : Value} {cl : List (Str × Addr)} {outer : List Env} {A₀ : Around} {base h₀ : Heap} {L : Addr} {m : Str → Option Value} {s : Shared} {Q E : Value → Shared → Prop}
    (R : RndF p M X top) (hs : 1 ≤ szI top) (hs' : szI top ≤ 6) (B : Below A₀ base outer h₀) (F : Fr h₀ L s.heap m) (X0 : (hd.heap_39 w.params).In h₀) (N : News h₀ L s.heap news) (T : Top topProg LS mean mg mb h₀) (hk : cs.kind = .function) (hdp : dp + 16 < recursionLimit) (hun : un + 128 < cLine)
    (hOk : OkC w h₀ L m news s Q top 0) :
    wpAny (model PySem.Challenge.rw_nt0161_01.row.prog w) (ktrTop dp un gd cn cs L a ccd cl outer) (call (.ref 135) [.int p tp, .int M tM, .int X tX]) Q E s := by
  revert X0; k_fill; intro X0
  obtain ⟨hg, h0, hm, D⟩ := R
  dsimp only [szI, absI] at hg h0 hm D hs hs'
  refine wpAny_call ?_
  k_dflt cell_enter
  k_steps
  all_goals first
    | (refine' okc_use hOk ?kzF ?kzN ?kzS ?kzA ?kzl
       case kzF => with_reducible assumption
       case kzN => with_reducible assumption
       case kzS => (intro kp kq; (repeat (first | exact kq | apply List.Mem.tail)))
       case kzA => first | assumption | tbn_find | exact allLt_of (by assumption)
       case kzl => first | assumption | omega)
    | (exfalso; omega)
end C8

section C9
open PySem PySem.W PyProof.Rows PySem.Spec PySem.Calls
set_option maxHeartbeats 8000000
theorem say_C9 : True := by
  k_with_none
  w_top off
  k_with "ite" => (k_here; first
  | (refine ite_neg (by (try simp only [b2i, decide_eq_true_eq, Bool.not_eq_true, Bool.and_eq_true, Bool.or_eq_true, decide_eq_false_iff_not, beq_iff_eq, bne_iff_ne, ne_eq, Int.fmod_one, not_true_eq_false, not_false_eq_true, Bool.false_eq_true, Int.reduceToNat, Int.reduceSub, Int.reducePow, Int.reduceMul]); (first | done | omega)) ?_)
  | (refine ite_pos (by (try simp only [b2i, decide_eq_true_eq, Bool.not_eq_true, Bool.and_eq_true, Bool.or_eq_true, decide_eq_false_iff_not, beq_iff_eq, bne_iff_ne, ne_eq, Int.fmod_one, not_true_eq_false, not_false_eq_true, Bool.false_eq_true, Int.reduceToNat, Int.reduceSub, Int.reducePow, Int.reduceMul]); (first | done | omega)) ?_))
  k_with "leaving ref" => (k_here; (with_reducible rename FlyD _ _ _ _ _ _ _ _ => fdX); k_dflt (refine' leave_onD ?hf ?K ?F ?R ?U ?_; (case R => exact fdX); (case hf => exact rfl); (case K => k_asm); (case F => k_asm); (case U => k_asm); (try clear fdX); k_whole; intro h' R' U'))
  k_with "call ref" => (k_here; (with_reducible show wpAny _ _ (call (Value.ref 100) _ _) _ _ _); k_dflt (refine' size_c  ?B ?F ?X ?N ?T ?hk ?hdp ?hun ?_; (case B => k_asm); (case F => k_asm); (case X => k_asm); (case N => k_asm); (case T => k_asm);  (case hk => first | exact rfl | assumption); (case hdp => ktr_room); (case hun => ktr_units); (intro t' h' tk' F' N'); (try k_sweep); (try k_fold)))
  k_with "call ref" => (k_here; (with_reducible show wpAny _ _ (call (Value.ref 107) _ _) _ _ _); k_dflt (refine' sgw_c  ?B ?F ?X ?N ?T ?hk ?hdp ?hun ?_; (case B => k_asm); (case F => k_asm); (case X => k_asm); (case N => k_asm); (case T => k_asm);  (case hk => first | exact rfl | assumption); (case hdp => ktr_room); (case hun => ktr_units); (intro t' h' tk' F' N'); (try k_sweep); (try k_fold)))
  k_with "call ref" => (k_here; (with_reducible show wpAny _ _ (call (Value.ref 135) _ _) _ _ _); k_dflt (refine' shr_c2 ?R ?hs ?hs2 ?B ?F ?X ?N ?T ?hk ?hdp ?hun ?_; (case B => k_asm); (case F => k_asm); (case X => k_asm); (case N => k_asm); (case T => k_asm); (case R => assumption); (case hs => assumption); (case hs2 => omega); (case hk => first | exact rfl | assumption); (case hdp => ktr_room); (case hun => ktr_units); (intro x' d' k1' k2' t1' t2' h' tk' F' N' l1' l2'; (try simp only [AllLt, and_true] at l1')); (all_goals (try k_fold))))
  trivial
theorem rnd_c {w : World} {mean : ExcName → Option Value} {mg mb : Str → Option Value} {news : List (Addr × Obj)} {p top bt : Int} {tp tM tX : Tok} {dp un : Nat} {gd : Option (List Code)} {cn : Str} {cs : Scope} {a : Addr} {ccd : Value} {cl : List (Str × Addr)} {outer : List Env} {A₀ : Around} {base h₀ : Heap} {L : Addr} {m : Str → Option Value} {s : Shared} {Q E : Value → Shared → Prop}
    (O : Odd5 p top) (hbt : bt = 1) (B : Below A₀ base outer h₀) (F : Fr h₀ L s.heap m) (X0 : (hd.heap_39 w.params).In h₀) (N : News h₀ L s.heap news) (T : Top topProg LS mean mg mb h₀) (hk : cs.kind = .function) (hdp : dp + 20 < recursionLimit) (hun : un + 160 < cLine)
    (hOk : OkC w h₀ L m news s Q top 0) :
    wpAny (model PySem.Challenge.rw_nt0161_01.row.prog w) (ktrTop dp un gd cn cs L a ccd cl outer) (call (.ref 149) [.int p tp, .int top tM, .int bt tX]) Q E s := by
  revert X0; k_fill; intro X0
  subst hbt
  have R := rnd_facts O
  obtain ⟨hs1, hs2, _, _, _⟩ := odd_size O
  have hs3 : szI top ≤ 6 := by have := O.2.1; omega
  have h1 : ((Builtin.Int.intBits (if (1:Int) < 0 then -1 else 1) : Nat) : Int) = 1 := by decide +kernel
  have hz : top ≠ 0 := by have := O.2.2.1; omega
  have h3 := O.1
  have h6 := O.2.1
  obtain ⟨hlo, hhi⟩ := odd_range O
  dsimp only [topM, topX] at R
  dsimp only [szI] at hs1 hs2 hs3
  refine wpAny_call ?_
  k_dflt cell_enter
  k_steps
  all_goals first
    | (refine' okc_use hOk ?kzF ?kzN ?kzS ?kzA ?kzl
       case kzF => with_reducible assumption
       case kzN => with_reducible assumption
       case kzS => (intro kp kq; (repeat (first | exact kq | apply List.Mem.tail)))
       case kzA => first | assumption | tbn_find | exact allLt_of (by assumption)
       case kzl => first | assumption | omega)
    | (exfalso; omega)
end C9

section C10
open PySem PySem.W PyProof.Rows PySem.Spec PySem.Calls
set_option maxHeartbeats 8000000
theorem say_C10 : True := by
  k_with_none
  w_top off
  k_with "ite" => (k_here; first
  | (refine ite_neg (by (try simp only [decide_eq_true_eq, Bool.not_eq_true, Bool.and_eq_true, Bool.or_eq_true, decide_eq_false_iff_not, beq_iff_eq, bne_iff_ne, ne_eq, Int.fmod_one, not_true_eq_false, not_false_eq_true, Bool.false_eq_true, Int.reduceToNat, Int.reduceSub, Int.reducePow, Int.reduceMul]); (first | done | omega)) ?_)
  | (refine ite_pos (by (try simp only [decide_eq_true_eq, Bool.not_eq_true, Bool.and_eq_true, Bool.or_eq_true, decide_eq_false_iff_not, beq_iff_eq, bne_iff_ne, ne_eq, Int.fmod_one, not_true_eq_false, not_false_eq_true, Bool.false_eq_true, Int.reduceToNat, Int.reduceSub, Int.reducePow, Int.reduceMul]); (first | done | omega)) ?_))
  k_with "leaving ref" => (k_here; (with_reducible rename FlyD _ _ _ _ _ _ _ _ => fdX); k_dflt (refine' leave_onD ?hf ?K ?F ?R ?U ?_; (case R => exact fdX); (case hf => exact rfl); (case K => k_asm); (case F => k_asm); (case U => k_asm); (try clear fdX); k_whole; intro h' R' U'))
  k_with "call ref" => (k_here; (with_reducible show wpAny _ _ (call (Value.ref 135) _ _) _ _ _); k_dflt (refine' shr_c1 ?D ?hp ?B ?F ?X ?N ?T ?hk ?hdp ?hun ?_ ?_; (case D => assumption); (case hp => assumption); (case B => k_asm); (case F => k_asm); (case X => k_asm); (case N => k_asm); (case T => k_asm); (case hk => first | exact rfl | assumption); (case hdp => ktr_room); (case hun => ktr_units); (all_goals (first | (intro b1' g' e' d' li' es' n' t1' t2' t3' h' tk' FG' R' gL' U') | (intro b1' b2' x' d' k1' k2' t1' t2' h' tk' F' N' l1' l2'; (try simp only [AllLt, and_true] at l1')))); (all_goals (try k_fold))))
  k_with "call ref" => (k_here; (with_reducible show wpAny _ _ (call (Value.ref 121) _ _) _ _ _); k_dflt (refine' lean_c ?D ?B ?F ?X ?N ?T ?hk ?hdp ?hun ?_ ?_; (case D => assumption); (case B => k_asm); (case F => k_asm); (case X => k_asm); (case N => k_asm); (case T => k_asm); (case hk => first | exact rfl | assumption); (case hdp => ktr_room); (case hun => ktr_units); (all_goals (first | (intro b1' g' e' d' li' es' n' t1' t2' t3' h' tk' FG' R' gL' U') | (intro b1' b2' x' d' k1' k2' t1' t2' h' tk' F' N' l1' l2'; (try simp only [AllLt, and_true] at l1')))); (all_goals (try k_fold))))
  trivial
theorem mul_c {w : World} {mean : ExcName → Option Value} {mg mb : Str → Option Value} {news : List (Addr × Obj)} {p o ex pl : Int} {tp : Tok} {x y dx dy : Addr} {a b ea eb : Int} {k1 k2 k3 k4 u1 u2 u3 u4 : Tok} {dp un : Nat} {gd : Option (List Code)} {cn : Str} {cs : Scope} {aa : Addr} {ccd : Value} {cl : List (Str × Addr)} {outer : List Env} {A₀ : Around} {base h₀ : Heap} {L : Addr} {m : Str → Option Value} {s : Shared} {Q E : Value → Shared → Prop}
    (hb : -64 < b ∧ b < 64) (D : Dec (a * b) (ea + eb) o ex pl) (hp : szI (a * b) ≤ p) (hx : (x, instObj 89 dx) ∈ news) (hdx : (dx, realD w.params k1 k2 a u1 ea u2) ∈ news) (hy : (y, instObj 89 dy) ∈ news) (hdy : (dy, realD w.params k3 k4 b u3 eb u4) ∈ news) (B : Below A₀ base outer h₀) (F : Fr h₀ L s.heap m) (X0 : (hd.heap_39 w.params).In h₀) (N : News h₀ L s.heap news) (T : Top topProg LS mean mg mb h₀) (hk : cs.kind = .function) (hdp : dp + 18 < recursionLimit) (hun : un + 144 < cLine)
    (hOk : -65536 ≤ pl → pl ≤ 65536 → OkC w h₀ L m news s Q o ex) (hBad : (pl < -65536 ∨ 65536 < pl) → BadC base h₀ L m (envX cn cs L aa ccd cl :: outer) news s E pl) :
    wpAny (model PySem.Challenge.rw_nt0161_01.row.prog w) (ktrTop dp un gd cn cs L aa ccd cl outer) (call (.ref 198) [.int p tp, .ref x, .ref y]) Q E s := by
  revert X0; k_fill; intro X0
  refine wpAny_call ?_
  k_dflt cell_enter
  k_steps
  all_goals first
    | (exfalso; omega)
    | (refine' hOk ?b ?c _ _ _ _ _ _ _ _ ?F ?N ?A ?l
       case b => assumption
       case c => assumption
       case F => k_asm
       case N => first | k_asm | (refine cb_drop (by k_asm) ?_; kcj_all)
       case A => first | assumption | tbn_find
       case l => first | assumption | omega)
    | (refine' hBad ?b _ _ _ _ _ _ _ _ _ _ _ ?F ?R ?g ?U
       case b => assumption
       case F => k_asm
       case R => first | k_asm | (refine FlyD.sub (by assumption) ?_; kcj_all)
       case g => first | assumption | k_get
       case U => k_asm)
end C10

section C11
open PySem PySem.W PyProof.Rows PySem.Spec PySem.Calls
set_option maxHeartbeats 8000000
theorem say_C11 : True := by
  k_with_none
  w_top off
  k_with "ite" => (k_here; first
  | (refine ite_neg (by (try simp only [b2i, decide_eq_true_eq, Bool.not_eq_true, Bool.and_eq_true, Bool.or_eq_true, decide_eq_false_iff_not, beq_iff_eq, bne_iff_ne, ne_eq, Int.fmod_one, not_true_eq_false, not_false_eq_true, Bool.false_eq_true, Int.reduceToNat, Int.reduceSub, Int.reducePow, Int.reduceMul]); (first | done | omega)) ?_)
  | (refine ite_pos (by (try simp only [b2i, decide_eq_true_eq, Bool.not_eq_true, Bool.and_eq_true, Bool.or_eq_true, decide_eq_false_iff_not, beq_iff_eq, bne_iff_ne, ne_eq, Int.fmod_one, not_true_eq_false, not_false_eq_true, Bool.false_eq_true, Int.reduceToNat, Int.reduceSub, Int.reducePow, Int.reduceMul]); (first | done | omega)) ?_))
  k_with "leaving ref" => (k_here; (with_reducible rename FlyD _ _ _ _ _ _ _ _ => fdX); k_dflt (refine' leave_onD ?hf ?K ?F ?R ?U ?_; (case R => exact fdX); (case hf => exact rfl); (case K => k_asm); (case F => k_asm); (case U => k_asm); (try clear fdX); k_whole; intro h' R' U'))
  k_with "call ref" => (k_here; (with_reducible show wpAny _ _ (call (Value.ref 156) _ _) _ _ _); k_dflt (refine' place_c ?hx ?hdx ?B ?F ?X ?N ?T ?hk ?hdp ?hun ?_; (case B => k_asm); (case F => k_asm); (case X => k_asm); (case N => k_asm); (case T => k_asm); (case hx => k_mem); (case hdx => k_mem); (case hk => first | exact rfl | assumption); (case hdp => ktr_room); (case hun => ktr_units); (intro t' h' tk' F' N'); (try k_sweep); (try k_fold)))
  k_with "call ref" => (k_here; (with_reducible show wpAny _ _ (call (Value.ref 163) _ _) _ _ _); k_dflt (refine' sgn_c ?hx ?hdx ?B ?F ?X ?N ?T ?hk ?hdp ?hun ?_; (case B => k_asm); (case F => k_asm); (case X => k_asm); (case N => k_asm); (case T => k_asm); (case hx => k_mem); (case hdx => k_mem); (case hk => first | exact rfl | assumption); (case hdp => ktr_room); (case hun => ktr_units); (intro t' h' tk' F' N'); (try k_sweep); (try k_fold)))
  k_with "call ref" => (k_here; (with_reducible show wpAny _ _ (call (Value.ref 135) _ _) _ _ _); k_dflt (refine' shr_c1 ?D ?hp ?B ?F ?X ?N ?T ?hk ?hdp ?hun ?_ ?_; (case B => k_asm); (case F => k_asm); (case X => k_asm); (case N => k_asm); (case T => k_asm); (case D => assumption); (case hp => assumption); (case hk => first | exact rfl | assumption); (case hdp => ktr_room); (case hun => ktr_units); (intro b1' b2' x' d' k1' k2' t1' t2' h' tk' F' N' l1' l2'); (try simp only [AllLt, and_true] at l1'); rotate_left; (intro b1' g' e' d' li' es' n' t1' t2' t3' h' tk' FG' R' gL' U'); rotate_left; (all_goals (try k_fold))))
  k_with "call ref" => (k_here; (with_reducible show wpAny _ _ (call (Value.ref 121) _ _) _ _ _); k_dflt (refine' lean_c ?D ?B ?F ?X ?N ?T ?hk ?hdp ?hun ?_ ?_; (case B => k_asm); (case F => k_asm); (case X => k_asm); (case N => k_asm); (case T => k_asm); (case D => assumption); (case hk => first | exact rfl | assumption); (case hdp => ktr_room); (case hun => ktr_units); (intro b1' b2' x' d' k1' k2' t1' t2' h' tk' F' N' l1' l2'); (try simp only [AllLt, and_true] at l1'); rotate_left; (intro b1' g' e' d' li' es' n' t1' t2' t3' h' tk' FG' R' gL' U'); rotate_left; (all_goals (try k_fold))))
  k_with "call ref" => (k_here; (with_reducible show wpAny _ _ (call (Value.ref 149) _ _) _ _ _); k_dflt (refine' rnd_c ?O ?bt ?B ?F ?X ?N ?T ?hk ?hdp ?hun ?_; (case B => k_asm); (case F => k_asm); (case X => k_asm); (case N => k_asm); (case T => k_asm); (case O => assumption); (case bt => exact rfl); (case hk => first | exact rfl | assumption); (case hdp => ktr_room); (case hun => ktr_units); (intro x' d' k1' k2' t1' t2' h' tk' F' N' l1' l2'; (try simp only [AllLt, and_true] at l1')); (all_goals (try k_fold))))
  trivial
theorem div_c {w : World} {mean : ExcName → Option Value} {mg mb : Str → Option Value} {news : List (Addr × Obj)} {p ex pl : Int} {tp : Tok} {x y dx dy : Addr} {a b ea eb : Int} {k1 k2 k3 k4 u1 u2 u3 u4 : Tok} {dp un : Nat} {gd : Option (List Code)} {cn : Str} {cs : Scope} {aa : Addr} {ccd : Value} {cl : List (Str × Addr)} {outer : List Env} {A₀ : Around} {base h₀ : Heap} {L : Addr} {m : Str → Option Value} {s : Shared} {Q E : Value → Shared → Prop}
    (hb : b = 1) (O : Odd5 p a) (hex : ea - eb = ex) (hpl : szI a + ex = pl) (hx : (x, instObj 89 dx) ∈ news) (hdx : (dx, realD w.params k1 k2 a u1 ea u2) ∈ news) (hy : (y, instObj 89 dy) ∈ news) (hdy : (dy, realD w.params k3 k4 b u3 eb u4) ∈ news) (B : Below A₀ base outer h₀) (F : Fr h₀ L s.heap m) (X0 : (hd.heap_39 w.params).In h₀) (N : News h₀ L s.heap news) (T : Top topProg LS mean mg mb h₀) (hk : cs.kind = .function) (hdp : dp + 26 < recursionLimit) (hun : un + 208 < cLine)
    (hOk : -65536 ≤ pl → pl ≤ 65536 → OkC w h₀ L m news s Q a ex) (hBad : (pl < -65536 ∨ 65536 < pl) → BadC base h₀ L m (envX cn cs L aa ccd cl :: outer) news s E pl) :
    wpAny (model PySem.Challenge.rw_nt0161_01.row.prog w) (ktrTop dp un gd cn cs L aa ccd cl outer) (call (.ref 205) [.int p tp, .ref x, .ref y]) Q E s := by
  revert X0; k_fill; intro X0
  subst hb
  have eS : a * (b2i (decide ((0:Int) < 1)) - b2i (decide ((1:Int) < 0))) = a := by rw [show b2i (decide ((0:Int) < 1)) - b2i (decide ((1:Int) < 0)) = 1 from rfl, Int.mul_one]
  have O2 : Odd5 p (a * (b2i (decide ((0:Int) < 1)) - b2i (decide ((1:Int) < 0)))) := eS.symm ▸ O
  have D2 : Dec (a * (b2i (decide ((0:Int) < 1)) - b2i (decide ((1:Int) < 0)))) (0 + ea - eb) a ex pl := by
    rw [eS, show 0 + ea - eb = ex by omega, ← hpl]
    exact dec_odd O
  refine wpAny_call ?_
  k_dflt cell_enter
  k_steps
  all_goals first
    | (refine' okc_use (hOk (by assumption) (by assumption)) ?kzF ?kzN ?kzS ?kzA ?kzl
       case kzF => with_reducible assumption
       case kzN => with_reducible assumption
       case kzS => (intro kp kq; (repeat (first | exact kq | apply List.Mem.tail)))
       case kzA => first | assumption | tbn_find | exact allLt_of (by assumption)
       case kzl => first | assumption | omega)
    | (refine' badc_use (hBad (by assumption)) ?kzF ?kzR ?kzS ?kzg ?kzU
       case kzF => with_reducible assumption
       case kzR => with_reducible assumption
       case kzS => (intro kp kq; (repeat (first | exact kq | apply List.Mem.tail)))
       case kzg => first | assumption | k_get
       case kzU => with_reducible assumption)
    | (exfalso; omega)
end C11

section C12
open PySem PySem.W PyProof.Rows PySem.Spec PySem.Calls
set_option maxHeartbeats 8000000
theorem say_C12 : True := by
  k_with_none
  w_top off
  k_with "ite" => (k_here; first
  | (refine ite_neg (by (try simp only [decide_eq_true_eq, Bool.not_eq_true, Bool.and_eq_true, Bool.or_eq_true, decide_eq_false_iff_not, beq_iff_eq, bne_iff_ne, ne_eq, Int.fmod_one, not_true_eq_false, not_false_eq_true, Bool.false_eq_true, Int.reduceToNat, Int.reduceSub, Int.reducePow, Int.reduceMul]); (first | done | omega)) ?_)
  | (refine ite_pos (by (try simp only [decide_eq_true_eq, Bool.not_eq_true, Bool.and_eq_true, Bool.or_eq_true, decide_eq_false_iff_not, beq_iff_eq, bne_iff_ne, ne_eq, Int.fmod_one, not_true_eq_false, not_false_eq_true, Bool.false_eq_true, Int.reduceToNat, Int.reduceSub, Int.reducePow, Int.reduceMul]); (first | done | omega)) ?_))
  k_with "leaving ref" => (k_here; (with_reducible rename FlyD _ _ _ _ _ _ _ _ => fdX); k_dflt (refine' leave_onD ?hf ?K ?F ?R ?U ?_; (case R => exact fdX); (case hf => exact rfl); (case K => k_asm); (case F => k_asm); (case U => k_asm); (try clear fdX); k_whole; intro h' R' U'))
  k_with "exec Raise some none" => (k_here; (with_reducible show wpAny _ _ (exec (Stmt.Raise (some (Expr.Call (Expr.Name ("OutOfRange" : Str) _) _ _ _)) none _) _) _ _ _); k_dflt (refine' ex_raise (C := 51) ?hX ?hh ?hb ?ht ?_; (case hX => k_asm); (case hh => exact rfl); (case hb => k_is); (case ht => k_is)))
  k_with "exec Raise some none" => (k_here; (with_reducible show wpAny _ _ (exec (Stmt.Raise (some (Expr.Call (Expr.Name ("DivisionByZero" : Str) _) _ _ _)) none _) _) _ _ _); k_dflt (refine' ex_raise (C := 70) ?hX ?hh ?hb ?ht ?_; (case hX => k_asm); (case hh => exact rfl); (case hb => k_is); (case ht => k_is)))
  k_with "ExUp" => (k_here; k_dflt (refine' exUp_of ?F ?X ?N ?hx ?hcl ?hd ?h1 ?_; (case F => k_asm); (case X => k_asm); (case N => k_asm); (case hx => k_mem); (case hcl => exact rfl); (case hd => exact rfl); (case h1 => exact rfl); k_whole))
  k_with "call ref" => (k_here; (with_reducible show wpAny _ _ (call (Value.ref _) _ _) (ExUp _ _ _) _ _); k_dflt (refine' ex_make ?k1 ?k2 ?k3 ?k4 ?k5 ?k6 ?k7 ?_; (case k1 => k_asm); (case k2 => k_asm); (case k3 => k_asm); (case k4 => first | exact exIn_51 _ | exact exIn_70 _); (case k5 => k_is); (case k6 => k_is); (case k7 => size_fits); k_whole; intro x' d' h' F' N' l1 l2; (try k_lt l1); (try k_lt2 l2); (try k_sweep); k_enter))
  k_with "setAttr ref" => (k_here; k_dflt (first
  | (refine' ex_set0 ?k1 ?k2 ?k3 ?k4 ?k5 ?k6 ?k7 ?k8 ?k9 ?k10 ?k11 ?_; (case k1 => k_asm); (case k2 => k_asm); (case k3 => k_asm); (case k4 => k_mem); (case k5 => exact rfl); (case k6 => exact rfl); (case k7 => exact rfl); (case k8 => k_is); (case k9 => first | exact exOver_51 _ | exact exOver_70 _); (case k10 => k_is); (case k11 => k_updF); k_whole; intro dx' h' kk' F' N' l1; (try dsimp only at N'); (try k_lt l1); (try k_sweep))
  | (refine' ex_set ?k1 ?k2 ?k3 ?k4 ?k5 ?k6 ?k7 ?k8 ?k9 ?k10 ?k11 ?k12 ?k13 ?k14 ?k15 ?_; (case k1 => k_asm); (case k2 => k_asm); (case k3 => k_asm); (case k4 => k_mem); (case k5 => exact rfl); (case k6 => exact rfl); (case k7 => exact rfl); (case k8 => k_mem); (case k9 => k_is); (case k10 => first | exact exOver_51 _ | exact exOver_70 _); (case k11 => k_is); (case k12 => k_get); (case k13 => k_put); (case k14 => k_upd); (case k15 => exact Nat.le_of_ble_eq_true rfl); k_whole; intro h' F' N'; (try k_sweep))))
  k_with "leaving ref" => (k_here; k_dflt (refine' leave_first2 (od := dictOf _ _) (ol := W.listOf _ _) (old := _) ?hf ?hk ?K ?F ?N ?hx ?hcl ?hd ?h0 ?h1 ?hdi ?hde ?hli ?ne ?ne2 ?hold ?hoff ?_; (case hf => exact rfl); (case hk => exact rfl); (case K => k_asm); (case F => k_asm); (case N => k_asm); (case hx => k_mem); (case hcl => exact rfl); (case hd => exact rfl); (case h0 => exact rfl); (case h1 => exact rfl); (case hdi => exact rfl); (case hde => k_mem); (case hli => k_mem); (case ne => (intro q; cases q)); (case ne2 => (intro q; cases q)); (case hold => first | exact sub5 | exact sub4); (case hoff => k_all); k_whole; intro h' R' U'))
  trivial
theorem div0_c {w : World} {mean : ExcName → Option Value} {mg mb : Str → Option Value} {news : List (Addr × Obj)} {p : Int} {tp : Tok} {x y dy : Addr} {b eb : Int} {k3 k4 u3 u4 : Tok} {dp un : Nat} {gd : Option (List Code)} {cn : Str} {cs : Scope} {aa : Addr} {ccd : Value} {cl : List (Str × Addr)} {outer : List Env} {A₀ : Around} {base h₀ : Heap} {L : Addr} {m : Str → Option Value} {s : Shared} {Q E : Value → Shared → Prop}
    (hb : b = 0) (hy : (y, instObj 89 dy) ∈ news) (hdy : (dy, realD w.params k3 k4 b u3 eb u4) ∈ news) (B : Below A₀ base outer h₀) (F : Fr h₀ L s.heap m) (X0 : (hd.heap_39 w.params).In h₀) (N : News h₀ L s.heap news) (T : Top topProg LS mean mg mb h₀) (hk : cs.kind = .function) (hdp : dp + 14 < recursionLimit) (hun : un + 112 < cLine)
    (hBad : BadZ base h₀ L m (envX cn cs L aa ccd cl :: outer) news s E) :
    wpAny (model PySem.Challenge.rw_nt0161_01.row.prog w) (ktrTop dp un gd cn cs L aa ccd cl outer) (call (.ref 205) [.int p tp, .ref x, .ref y]) Q E s := by
  revert X0; k_fill; intro X0
  subst hb
  refine wpAny_call ?_
  k_dflt cell_enter
  k_steps
  · refine' hBad _ _ _ _ _ _ _ _ _ ?F ?R ?g ?U
    case F => k_asm
    case R => k_asm
    case g => k_get
    case U => k_asm
end C12

section C13
open PySem PySem.W PyProof.Rows PySem.Spec PySem.Calls
set_option maxHeartbeats 8000000
theorem say_C13 : True := by
  k_with_none
  w_top off
  k_with "ite" => (k_here; first
  | (refine ite_neg (by (try simp only [b2i, decide_eq_true_eq, Bool.not_eq_true, Bool.and_eq_true, Bool.or_eq_true, decide_eq_false_iff_not, beq_iff_eq, bne_iff_ne, ne_eq, Int.fmod_one, not_true_eq_false, not_false_eq_true, Bool.false_eq_true, Int.reduceToNat, Int.reduceSub, Int.reducePow, Int.reduceMul]); (first | done | omega)) ?_)
  | (refine ite_pos (by (try simp only [b2i, decide_eq_true_eq, Bool.not_eq_true, Bool.and_eq_true, Bool.or_eq_true, decide_eq_false_iff_not, beq_iff_eq, bne_iff_ne, ne_eq, Int.fmod_one, not_true_eq_false, not_false_eq_true, Bool.false_eq_true, Int.reduceToNat, Int.reduceSub, Int.reducePow, Int.reduceMul]); (first | done | omega)) ?_))
  k_with "leaving ref" => (k_here; (with_reducible rename FlyD _ _ _ _ _ _ _ _ => fdX); k_dflt (refine' leave_onD ?hf ?K ?F ?R ?U ?_; (case R => exact fdX); (case hf => exact rfl); (case K => k_asm); (case F => k_asm); (case U => k_asm); (try clear fdX); k_whole; intro h' R' U'))
  k_with "call ref" => (k_here; (with_reducible show wpAny _ _ (call (Value.ref 100) _ _) _ _ _); k_dflt (refine' size_c  ?B ?F ?X ?N ?T ?hk ?hdp ?hun ?_; (case B => k_asm); (case F => k_asm); (case X => k_asm); (case N => k_asm); (case T => k_asm);  (case hk => first | exact rfl | assumption); (case hdp => ktr_room); (case hun => ktr_units); (intro t' h' tk' F' N'); (try k_sweep); (try k_fold)))
  k_with "call ref" => (k_here; (with_reducible show wpAny _ _ (call (Value.ref 107) _ _) _ _ _); k_dflt (refine' sgw_c  ?B ?F ?X ?N ?T ?hk ?hdp ?hun ?_; (case B => k_asm); (case F => k_asm); (case X => k_asm); (case N => k_asm); (case T => k_asm);  (case hk => first | exact rfl | assumption); (case hdp => ktr_room); (case hun => ktr_units); (intro t' h' tk' F' N'); (try k_sweep); (try k_fold)))
  k_with "call ref" => (k_here; (with_reducible show wpAny _ _ (call (Value.ref 156) _ _) _ _ _); k_dflt (refine' place_c ?hx ?hdx ?B ?F ?X ?N ?T ?hk ?hdp ?hun ?_; (case B => k_asm); (case F => k_asm); (case X => k_asm); (case N => k_asm); (case T => k_asm); (case hx => k_mem); (case hdx => k_mem); (case hk => first | exact rfl | assumption); (case hdp => ktr_room); (case hun => ktr_units); (intro t' h' tk' F' N'); (try k_sweep); (try k_fold)))
  k_with "call ref" => (k_here; (with_reducible show wpAny _ _ (call (Value.ref 163) _ _) _ _ _); k_dflt (refine' sgn_c ?hx ?hdx ?B ?F ?X ?N ?T ?hk ?hdp ?hun ?_; (case B => k_asm); (case F => k_asm); (case X => k_asm); (case N => k_asm); (case T => k_asm); (case hx => k_mem); (case hdx => k_mem); (case hk => first | exact rfl | assumption); (case hdp => ktr_room); (case hun => ktr_units); (intro t' h' tk' F' N'); (try k_sweep); (try k_fold)))
  k_with "call ref" => (k_here; (with_reducible show wpAny _ _ (call (Value.ref 135) _ _) _ _ _); k_dflt (refine' shr_c1 ?D ?hp ?B ?F ?X ?N ?T ?hk ?hdp ?hun ?_ ?_; (case B => k_asm); (case F => k_asm); (case X => k_asm); (case N => k_asm); (case T => k_asm); (case D => assumption); (case hp => assumption); (case hk => first | exact rfl | assumption); (case hdp => ktr_room); (case hun => ktr_units); (intro b1' b2' x' d' k1' k2' t1' t2' h' tk' F' N' l1' l2'); (try simp only [AllLt, and_true] at l1'); rotate_left; (intro b1' g' e' d' li' es' n' t1' t2' t3' h' tk' FG' R' gL' U'); rotate_left; (all_goals (try k_fold))))
  trivial
theorem add_c {w : World} {mean : ExcName → Option Value} {mg mb : Str → Option Value} {news : List (Addr × Obj)} {p o ex pl : Int} {tp : Tok} {x y dx dy : Addr} {a b ea eb : Int} {k1 k2 k3 k4 u1 u2 u3 u4 : Tok} {dp un : Nat} {gd : Option (List Code)} {cn : Str} {cs : Scope} {aa : Addr} {ccd : Value} {cl : List (Str × Addr)} {outer : List Env} {A₀ : Around} {base h₀ : Heap} {L : Addr} {m : Str → Option Value} {s : Shared} {Q E : Value → Shared → Prop}
    (hb : b = a) (he : eb = ea) (O : Odd5 p a) (ho : a = o) (hex : ea + 1 = ex) (hpl : szI a + 1 + ea = pl) (hx : (x, instObj 89 dx) ∈ news) (hdx : (dx, realD w.params k1 k2 a u1 ea u2) ∈ news) (hy : (y, instObj 89 dy) ∈ news) (hdy : (dy, realD w.params k3 k4 b u3 eb u4) ∈ news) (B : Below A₀ base outer h₀) (F : Fr h₀ L s.heap m) (X0 : (hd.heap_39 w.params).In h₀) (N : News h₀ L s.heap news) (T : Top topProg LS mean mg mb h₀) (hk : cs.kind = .function) (hdp : dp + 18 < recursionLimit) (hun : un + 144 < cLine)
    (hOk : -65536 ≤ pl → pl ≤ 65536 → OkC w h₀ L m news s Q o ex) (hBad : (pl < -65536 ∨ 65536 < pl) → BadC base h₀ L m (envX cn cs L aa ccd cl :: outer) news s E pl) :
    wpAny (model PySem.Challenge.rw_nt0161_01.row.prog w) (ktrTop dp un gd cn cs L aa ccd cl outer) (call (.ref 184) [.int p tp, .ref x, .ref y]) Q E s := by
  revert X0; k_fill; intro X0
  subst hb he ho hex hpl
  obtain ⟨hs1, hs2, _, _, _⟩ := odd_size O
  have h3 := O.1
  have h6 := O.2.1
  have hodd := O.2.2.1
  obtain ⟨hlo, hhi⟩ := odd_range O
  have e0 : (if eb < eb then eb else eb) = eb := by split <;> rfl
  have eT : b * 2 ^ (eb - if eb < eb then eb else eb).toNat + b * 2 ^ (eb - if eb < eb then eb else eb).toNat = 2 * b := by
    rw [e0, Int.sub_self]
    show b * 1 + b * 1 = _
    omega
  have D : Dec (b * 2 ^ (eb - if eb < eb then eb else eb).toNat + b * 2 ^ (eb - if eb < eb then eb else eb).toNat) (if eb < eb then eb else eb) b (eb + 1) (szI b + 1 + eb) := by
    rw [eT, e0]; exact dec_twice O
  have hp : szI (b * 2 ^ (eb - if eb < eb then eb else eb).toNat + b * 2 ^ (eb - if eb < eb then eb else eb).toNat) ≤ p := by
    rw [eT, (odd_size O).2.2.2.1]; omega
  dsimp only [szI] at hs1 hs2
  refine wpAny_call ?_
  k_dflt cell_enter
  k_steps
  all_goals first
    | (refine' okc_use (hOk (by assumption) (by assumption)) ?kzF ?kzN ?kzS ?kzA ?kzl
       case kzF => with_reducible assumption
       case kzN => with_reducible assumption
       case kzS => (intro kp kq; (repeat (first | exact kq | apply List.Mem.tail)))
       case kzA => first | assumption | tbn_find | exact allLt_of (by assumption)
       case kzl => first | assumption | omega)
    | (refine' badc_use (hBad (by assumption)) ?kzF ?kzR ?kzS ?kzg ?kzU
       case kzF => with_reducible assumption
       case kzR => with_reducible assumption
       case kzS => (intro kp kq; (repeat (first | exact kq | apply List.Mem.tail)))
       case kzg => first | assumption | k_get
       case kzU => with_reducible assumption)
    | (exfalso; omega)
end C13

section C14
open PySem PySem.W PyProof.Rows PySem.Spec PySem.Calls
set_option maxHeartbeats 8000000
theorem say_C14 : True := by
  k_with_none
  w_top off
  k_with "ite" => (k_here; first
  | (refine ite_neg (by (try simp only [b2i, decide_eq_true_eq, Bool.not_eq_true, Bool.and_eq_true, Bool.or_eq_true, decide_eq_false_iff_not, beq_iff_eq, bne_iff_ne, ne_eq, Int.fmod_one, not_true_eq_false, not_false_eq_true, Bool.false_eq_true, Int.reduceToNat, Int.reduceSub, Int.reducePow, Int.reduceMul]); (first | done | omega)) ?_)
  | (refine ite_pos (by (try simp only [b2i, decide_eq_true_eq, Bool.not_eq_true, Bool.and_eq_true, Bool.or_eq_true, decide_eq_false_iff_not, beq_iff_eq, bne_iff_ne, ne_eq, Int.fmod_one, not_true_eq_false, not_false_eq_true, Bool.false_eq_true, Int.reduceToNat, Int.reduceSub, Int.reducePow, Int.reduceMul]); (first | done | omega)) ?_))
  k_with "leaving ref" => (k_here; (with_reducible rename FlyD _ _ _ _ _ _ _ _ => fdX); k_dflt (refine' leave_onD ?hf ?K ?F ?R ?U ?_; (case R => exact fdX); (case hf => exact rfl); (case K => k_asm); (case F => k_asm); (case U => k_asm); (try clear fdX); k_whole; intro h' R' U'))
  k_with "call ref" => (k_here; (with_reducible show wpAny _ _ (call (Value.ref 89) [Value.int _ _, Value.int _ _] _) _ _ _); k_dflt (refine' real_c ?B ?F ?X ?N ?T ?hk ?hdp ?hun ?_; (case B => k_asm); (case F => k_asm); (case X => k_asm); (case N => k_asm); (case T => k_asm); (case hk => first | exact rfl | assumption); (case hdp => ktr_room); (case hun => ktr_units); (intro x' d' k1' k2' t1' t2' h' tk' F' N' l1' l2'); (try simp only [AllLt, and_true] at l1'); (try k_sweep); (try k_fold)))
  k_with "call ref" => (k_here; (with_reducible show wpAny _ _ (call (Value.ref 184) _ _) _ _ _); k_dflt (refine' add_c ?hb ?he ?O ?ho ?hex ?hpl ?hx ?hdx ?hy ?hdy ?B ?F ?X ?N ?T ?hk ?hdp ?hun ?_ ?_; (case B => k_asm); (case F => k_asm); (case X => k_asm); (case N => k_asm); (case T => k_asm); (case hx => k_mem); (case hdx => k_mem); (case hy => k_mem); (case hdy => k_mem); (case hb => first | assumption | omega); (case he => first | assumption | exact rfl); (case O => assumption); (case ho => first | assumption | exact rfl); (case hex => first | assumption | omega); (case hpl => first | assumption | omega); (case hk => first | exact rfl | assumption); (case hdp => ktr_room); (case hun => ktr_units); (intro b1' b2' x' d' k1' k2' t1' t2' h' tk' F' N' l1' l2'); (try simp only [AllLt, and_true] at l1'); rotate_left; (intro b1' g' e' d' li' es' n' t1' t2' t3' h' tk' FG' R' gL' U'); rotate_left; (all_goals (try k_fold))))
  trivial
theorem sub_c {w : World} {mean : ExcName → Option Value} {mg mb : Str → Option Value} {news : List (Addr × Obj)} {p o ex pl : Int} {tp : Tok} {x y dx dy : Addr} {a b ea eb : Int} {k1 k2 k3 k4 u1 u2 u3 u4 : Tok} {dp un : Nat} {gd : Option (List Code)} {cn : Str} {cs : Scope} {aa : Addr} {ccd : Value} {cl : List (Str × Addr)} {outer : List Env} {A₀ : Around} {base h₀ : Heap} {L : Addr} {m : Str → Option Value} {s : Shared} {Q E : Value → Shared → Prop}
    (hb : 0 - b = a) (he : eb = ea) (O : Odd5 p a) (ho : a = o) (hex : ea + 1 = ex) (hpl : szI a + 1 + ea = pl) (hx : (x, instObj 89 dx) ∈ news) (hdx : (dx, realD w.params k1 k2 a u1 ea u2) ∈ news) (hy : (y, instObj 89 dy) ∈ news) (hdy : (dy, realD w.params k3 k4 b u3 eb u4) ∈ news) (B : Below A₀ base outer h₀) (F : Fr h₀ L s.heap m) (X0 : (hd.heap_39 w.params).In h₀) (N : News h₀ L s.heap news) (T : Top topProg LS mean mg mb h₀) (hk : cs.kind = .function) (hdp : dp + 22 < recursionLimit) (hun : un + 176 < cLine)
    (hOk : -65536 ≤ pl → pl ≤ 65536 → OkC w h₀ L m news s Q o ex) (hBad : (pl < -65536 ∨ 65536 < pl) → BadC base h₀ L m (envX cn cs L aa ccd cl :: outer) news s E pl) :
    wpAny (model PySem.Challenge.rw_nt0161_01.row.prog w) (ktrTop dp un gd cn cs L aa ccd cl outer) (call (.ref 191) [.int p tp, .ref x, .ref y]) Q E s := by
  revert X0; k_fill; intro X0
  refine wpAny_call ?_
  k_dflt cell_enter
  k_steps
  all_goals first
    | (refine' okc_use (hOk (by assumption) (by assumption)) ?kzF ?kzN ?kzS ?kzA ?kzl
       case kzF => with_reducible assumption
       case kzN => with_reducible assumption
       case kzS => (intro kp kq; (repeat (first | exact kq | apply List.Mem.tail)))
       case kzA => first | assumption | tbn_find | exact allLt_of (by assumption)
       case kzl => first | assumption | omega)
    | (refine' badc_use (hBad (by assumption)) ?kzF ?kzR ?kzS ?kzg ?kzU
       case kzF => with_reducible assumption
       case kzR => with_reducible assumption
       case kzS => (intro kp kq; (repeat (first | exact kq | apply List.Mem.tail)))
       case kzg => first | assumption | k_get
       case kzU => with_reducible assumption)
    | (exfalso; omega)
end C14

section C15
open PySem PySem.W PyProof.Rows PySem.Spec PySem.Calls
set_option maxHeartbeats 8000000
/-- what a call without arguments comes to -/
abbrev AskC (w : World) (mean : ExcName → Option Value) (mg mb : Str → Option Value) (f : Addr) (news : List (Addr × Obj)) (o ex pl : Int) : Prop :=
  ∀ {dp un : Nat} {gd : Option (List Code)} {cn : Str} {cs : Scope} {aa : Addr} {ccd : Value} {cl : List (Str × Addr)} {outer : List Env} {A₀ : Around} {base h₀ : Heap} {L : Addr} {m : Str → Option Value} {s : Shared} {Q E : Value → Shared → Prop}, Below A₀ base outer h₀ → Fr h₀ L s.heap m → (hd.heap_39 w.params).In h₀ → News h₀ L s.heap news → Top topProg LS mean mg mb h₀ → cs.kind = .function → dp + 30 < recursionLimit → un + 240 < cLine →
    (-65536 ≤ pl → pl ≤ 65536 → OkC w h₀ L m news s Q o ex) → ((pl < -65536 ∨ 65536 < pl) → BadC base h₀ L m (envX cn cs L aa ccd cl :: outer) news s E pl) →
    wpAny (model PySem.Challenge.rw_nt0161_01.row.prog w) (ktrTop dp un gd cn cs L aa ccd cl outer) (call (.ref f) []) Q E s
abbrev AskZ (w : World) (mean : ExcName → Option Value) (mg mb : Str → Option Value) (f : Addr) (news : List (Addr × Obj)) : Prop :=
  ∀ {dp un : Nat} {gd : Option (List Code)} {cn : Str} {cs : Scope} {aa : Addr} {ccd : Value} {cl : List (Str × Addr)} {outer : List Env} {A₀ : Around} {base h₀ : Heap} {L : Addr} {m : Str → Option Value} {s : Shared} {Q E : Value → Shared → Prop}, Below A₀ base outer h₀ → Fr h₀ L s.heap m → (hd.heap_39 w.params).In h₀ → News h₀ L s.heap news → Top topProg LS mean mg mb h₀ → cs.kind = .function → dp + 30 < recursionLimit → un + 240 < cLine →
    BadZ base h₀ L m (envX cn cs L aa ccd cl :: outer) news s E →
    wpAny (model PySem.Challenge.rw_nt0161_01.row.prog w) (ktrTop dp un gd cn cs L aa ccd cl outer) (call (.ref f) []) Q E s
theorem say_C15 : True := by
  k_with_none
  w_top off
  k_with "ite" => (k_here; first
  | (refine ite_neg (by (try simp only [b2i, decide_eq_true_eq, Bool.not_eq_true, Bool.and_eq_true, Bool.or_eq_true, decide_eq_false_iff_not, beq_iff_eq, bne_iff_ne, ne_eq, Int.fmod_one, not_true_eq_false, not_false_eq_true, Bool.false_eq_true, Int.reduceToNat, Int.reduceSub, Int.reducePow, Int.reduceMul]); (first | done | omega)) ?_)
  | (refine ite_pos (by (try simp only [b2i, decide_eq_true_eq, Bool.not_eq_true, Bool.and_eq_true, Bool.or_eq_true, decide_eq_false_iff_not, beq_iff_eq, bne_iff_ne, ne_eq, Int.fmod_one, not_true_eq_false, not_false_eq_true, Bool.false_eq_true, Int.reduceToNat, Int.reduceSub, Int.reducePow, Int.reduceMul]); (first | done | omega)) ?_))
  k_with "leaving ref" => (k_here; (with_reducible rename FlyD _ _ _ _ _ _ _ _ => fdX); k_dflt (refine' leave_onD ?hf ?K ?F ?R ?U ?_; (case R => exact fdX); (case hf => exact rfl); (case K => k_asm); (case F => k_asm); (case U => k_asm); (try clear fdX); k_whole; intro h' R' U'))
  k_with "callWith ref" => (k_here; k_dflt (refine' callWith_F0 ?k1 ?_; (case k1 => exact FnAt.of (by k_asm) (by k_mem)); k_whole; try dsimp only [List.nil_append, List.cons_append]))
  k_with "call ref" => (k_here; (with_reducible show wpAny _ _ (call (Value.ref _) [] _) _ _ _); (with_reducible rename AskC _ _ _ _ _ _ _ _ _ => hAsk9); k_dflt (refine' hAsk9 ?B ?F ?X ?N ?T ?hk ?hdp ?hun ?_ ?_; (case B => k_asm); (case F => k_asm); (case X => k_asm); (case N => k_asm); (case T => k_asm); (case hk => first | exact rfl | assumption); (case hdp => ktr_room); (case hun => ktr_units); (intro b1' b2' x' d' k1' k2' t1' t2' h' tk' F' N' l1' l2'); (try simp only [AllLt, and_true] at l1'); rotate_left; (intro b1' g' e' d' li' es' n' t1' t2' t3' h' tk' FG' R' gL' U'); rotate_left; (all_goals (try k_fold))))
  k_with "call ref" => (k_here; (with_reducible show wpAny _ _ (call (Value.ref _) [] _) _ _ _); (with_reducible rename AskZ _ _ _ _ _ _ => hAsk9); k_dflt (refine' hAsk9 ?B ?F ?X ?N ?T ?hk ?hdp ?hun ?_; (case B => k_asm); (case F => k_asm); (case X => k_asm); (case N => k_asm); (case T => k_asm); (case hk => first | exact rfl | assumption); (case hdp => ktr_room); (case hun => ktr_units); (intro g' e' d' li' es' n' t1' h' tk' FG' R' gL' U'); (all_goals (try k_fold))))
  k_with "noteFrame ref" => (k_here; (with_reducible rename FlyD _ _ _ _ _ _ _ _ => fdX); k_dflt (refine' look_D ?R ?K ?U ?_; (case R => exact fdX); (case K => k_asm); (case U => k_asm); (try clear fdX); k_whole); intro h' R' U'; (try dsimp only at R' U' ⊢))
  k_with "handleBy ref" => (k_here; (with_reducible rename FlyD _ _ _ _ _ _ _ _ => fdX); first
  | (k_dflt (refine' pass_D ?R ?F ?K ?U ?XB ?TB ?T ?_; (case R => exact fdX); (case F => k_asm); (case K => k_asm); (case U => k_asm); (case XB => assumption); (case TB => assumption); (case T => kts_test); (try clear fdX); k_whole); intro h' R' U'; (try dsimp only at R' U' ⊢))
  | (k_dflt (refine' hit_D ?R ?F ?K ?U ?XB ?TB ?D ?T0 ?T ?_; (case R => exact fdX); (case F => k_asm); (case K => k_asm); (case U => k_asm); (case XB => assumption); (case TB => assumption); (case D => assumption); (case T0 => exact KtsTurn.refl); (case T => kts_test); (try clear fdX); k_whole); intro h' g' oe' tk' T' F' N' c1' c2' c3' K' X' P' D'; (try k_lift K'); (try k_sweep)))
  k_with "getAttr ref" => (k_here; k_dflt (refine' ex_get ?k1 ?k2 ?k3 ?k4 ?k5 ?k6 ?k7 ?k8 ?k9 ?k10 ?k11 ?k12 ?k13 ?k14 ?_; (case k1 => k_asm); (case k2 => k_asm); (case k3 => k_asm); (case k4 => k_mem); (case k5 => assumption); (case k6 => assumption); (case k7 => assumption); (case k8 => k_mem); (case k9 => k_is); (case k10 => k_is); (case k11 => first | exact exOver_51 _ | exact exOver_70 _); (case k12 => k_is); (case k13 => assumption); (case k14 => exact rfl); k_whole))
  trivial
theorem told_c {w : World} {mean : ExcName → Option Value} {mg mb : Str → Option Value} {news : List (Addr × Obj)} {f : Addr} {oc : Value} {od : Option Addr} {fd : FuncData} {sl : Array (Option Value)} {o ex pl : Int} {dp un : Nat} {gd : Option (List Code)} {cn : Str} {cs : Scope} {aa : Addr} {ccd : Value} {cl : List (Str × Addr)} {outer : List Env} {A₀ : Around} {base h₀ : Heap} {L : Addr} {m : Str → Option Value} {s : Shared} {Q E : Value → Shared → Prop}
    (hfm : (f, (⟨oc, od, .func fd, sl⟩ : Obj)) ∈ news) (hAsk : AskC w mean mg mb f news o ex pl) (XB : (hd.heap_39 w.params).In base) (TB : Top topProg LS mean mg mb base) (D0 : KtsDicts (outer.filterMap (·.frame)) h₀) (B : Below A₀ base outer h₀) (F : Fr h₀ L s.heap m) (X0 : (hd.heap_39 w.params).In h₀) (N : News h₀ L s.heap news) (T : Top topProg LS mean mg mb h₀) (hk : cs.kind = .function) (hdp : dp + 36 < recursionLimit) (hun : un + 288 < cLine)
    (hOk : -65536 ≤ pl → pl ≤ 65536 → ∀ (h₀' : Heap) (r : Addr) (t1 t2 t3 t4 : Tok) (h' : Heap) (tk' : Nat), KtsTurn (outer.filterMap (·.frame)) h₀ h₀' → Fr h₀' L h' m → News h₀' L h' ((r, W.listOf #[.int o t1, .int ex t2] 0) :: news) → AllLt r news → Below A₀ base outer h₀' → (hd.heap_39 w.params).In h₀' → Top topProg LS mean mg mb h₀' → KtsDicts (outer.filterMap (·.frame)) h₀' → Q (.ref r) { s with heap := h', toks := tk' })
    (hBad : (pl < -65536 ∨ 65536 < pl) → ∀ (h₀' : Heap) (r : Addr) (t1 t2 t3 t4 : Tok) (h' : Heap) (tk' : Nat), KtsTurn (outer.filterMap (·.frame)) h₀ h₀' → Fr h₀' L h' m → News h₀' L h' ((r, W.listOf #[.str ("range" : Str) t1, .str ("inexact" : Str) t2, .int 0 t3, .int pl t4] 0) :: news) → AllLt r news → Below A₀ base outer h₀' → (hd.heap_39 w.params).In h₀' → Top topProg LS mean mg mb h₀' → KtsDicts (outer.filterMap (·.frame)) h₀' → Q (.ref r) { s with heap := h', toks := tk' }) :
    wpAny (model PySem.Challenge.rw_nt0161_01.row.prog w) (ktrTop dp un gd cn cs L aa ccd cl outer) (call (.ref 212) [.ref f]) Q E s := by
  revert X0; k_fill; intro X0
  refine wpAny_call ?_
  k_dflt (refine' code_T ?k1 ?k2 ?k3 ?k4 ?k5 ?kXB ?kTB ?kD ?kT0 ?kA ?kF ?kK ?k6 ?k7 ?k8 ?k9 ?kB ?_ ?c2 ?c3 ?c4 ?c5; (case kA => exact rfl); (case kF => exact rfl); (case kK => assumption); (case k2 => k_asm); (case k1 => k_asm); (case k3 => k_asm); (case k4 => k_asm); (case k5 => k_asm); (case kXB => assumption); (case kTB => assumption); (case kD => assumption); (case kT0 => exact KtsTurn.refl); (case k6 => k_is); (case k7 => k_is); (case k8 => ktr_room); (case k9 => exact BindsTo.of_eq rfl); (case kB => exact locs rfl); (case c2 => exact rfl); (case c3 => exact rfl); (case c4 => exact rfl); (case c5 => decide); k_whole; intro g' L' h' FG' F' N' B' X' T' D' l1'; (try dsimp only); (try k_fold))
  k_steps
  all_goals first
    | (refine' hOk (by assumption) (by assumption) _ _ _ _ 0 0 _ _ KtsTurn.refl ?kzF (cb_dropL ?kzN ?kzS) ?kzA ?kzB ?kzX ?kzP ?kzD
       case kzF => with_reducible assumption
       case kzN => with_reducible assumption
       case kzS => (intro kp kq; (repeat (first | exact kq | apply List.Mem.tail)))
       case kzA => first | tbn_find | assumption
       case kzB => assumption
       case kzX => assumption
       case kzP => assumption
       case kzD => assumption)
    | (refine' hBad (by assumption) _ _ _ _ _ _ _ _ ?kzT ?kzF (cb_dropL ?kzN ?kzS) ?kzA ?kzB ?kzX ?kzP ?kzD
       case kzF => with_reducible assumption
       case kzN => with_reducible assumption
       case kzT => assumption
       case kzS => (intro kp kq; (repeat (first | exact kq | apply List.Mem.tail)))
       case kzA => first | tbn_find | assumption
       case kzB => assumption
       case kzX => assumption
       case kzP => assumption
       case kzD => assumption)
end C15

section C16
open PySem PySem.W PyProof.Rows PySem.Spec PySem.Calls
set_option maxHeartbeats 8000000
theorem say_C16 : True := by
  k_with_none
  w_top off
  k_with "ite" => (k_here; first
  | (refine ite_neg (by (try simp only [b2i, decide_eq_true_eq, Bool.not_eq_true, Bool.and_eq_true, Bool.or_eq_true, decide_eq_false_iff_not, beq_iff_eq, bne_iff_ne, ne_eq, Int.fmod_one, not_true_eq_false, not_false_eq_true, Bool.false_eq_true, Int.reduceToNat, Int.reduceSub, Int.reducePow, Int.reduceMul]); (first | done | omega)) ?_)
  | (refine ite_pos (by (try simp only [b2i, decide_eq_true_eq, Bool.not_eq_true, Bool.and_eq_true, Bool.or_eq_true, decide_eq_false_iff_not, beq_iff_eq, bne_iff_ne, ne_eq, Int.fmod_one, not_true_eq_false, not_false_eq_true, Bool.false_eq_true, Int.reduceToNat, Int.reduceSub, Int.reducePow, Int.reduceMul]); (first | done | omega)) ?_))
  k_with "leaving ref" => (k_here; (with_reducible rename FlyD _ _ _ _ _ _ _ _ => fdX); k_dflt (refine' leave_onD ?hf ?K ?F ?R ?U ?_; (case R => exact fdX); (case hf => exact rfl); (case K => k_asm); (case F => k_asm); (case U => k_asm); (try clear fdX); k_whole; intro h' R' U'))
  k_with "callWith ref" => (k_here; k_dflt (refine' callWith_F0 ?k1 ?_; (case k1 => exact FnAt.of (by k_asm) (by k_mem)); k_whole; try dsimp only [List.nil_append, List.cons_append]))
  k_with "call ref" => (k_here; (with_reducible show wpAny _ _ (call (Value.ref _) [] _) _ _ _); (with_reducible rename AskC _ _ _ _ _ _ _ _ _ => hAsk9); k_dflt (refine' hAsk9 ?B ?F ?X ?N ?T ?hk ?hdp ?hun ?_ ?_; (case B => k_asm); (case F => k_asm); (case X => k_asm); (case N => k_asm); (case T => k_asm); (case hk => first | exact rfl | assumption); (case hdp => ktr_room); (case hun => ktr_units); (intro b1' b2' x' d' k1' k2' t1' t2' h' tk' F' N' l1' l2'); (try simp only [AllLt, and_true] at l1'); rotate_left; (intro b1' g' e' d' li' es' n' t1' t2' t3' h' tk' FG' R' gL' U'); rotate_left; (all_goals (try k_fold))))
  k_with "call ref" => (k_here; (with_reducible show wpAny _ _ (call (Value.ref _) [] _) _ _ _); (with_reducible rename AskZ _ _ _ _ _ _ => hAsk9); k_dflt (refine' hAsk9 ?B ?F ?X ?N ?T ?hk ?hdp ?hun ?_; (case B => k_asm); (case F => k_asm); (case X => k_asm); (case N => k_asm); (case T => k_asm); (case hk => first | exact rfl | assumption); (case hdp => ktr_room); (case hun => ktr_units); (intro g' e' d' li' es' n' t1' h' tk' FG' R' gL' U'); (all_goals (try k_fold))))
  k_with "noteFrame ref" => (k_here; (with_reducible rename FlyD _ _ _ _ _ _ _ _ => fdX); k_dflt (refine' look_D ?R ?K ?U ?_; (case R => exact fdX); (case K => k_asm); (case U => k_asm); (try clear fdX); k_whole); intro h' R' U'; (try dsimp only at R' U' ⊢))
  k_with "handleBy ref" => (k_here; (with_reducible rename FlyD _ _ _ _ _ _ _ _ => fdX); first
  | (k_dflt (refine' pass_D ?R ?F ?K ?U ?XB ?TB ?T ?_; (case R => exact fdX); (case F => k_asm); (case K => k_asm); (case U => k_asm); (case XB => assumption); (case TB => assumption); (case T => kts_test); (try clear fdX); k_whole); intro h' R' U'; (try dsimp only at R' U' ⊢))
  | (k_dflt (refine' hit_D ?R ?F ?K ?U ?XB ?TB ?D ?T0 ?T ?_; (case R => exact fdX); (case F => k_asm); (case K => k_asm); (case U => k_asm); (case XB => assumption); (case TB => assumption); (case D => assumption); (case T0 => exact KtsTurn.refl); (case T => kts_test); (try clear fdX); k_whole); intro h' g' oe' tk' T' F' N' c1' c2' c3' K' X' P' D'; (try k_lift K'); (try k_sweep)))
  k_with "getAttr ref" => (k_here; k_dflt (refine' ex_get ?k1 ?k2 ?k3 ?k4 ?k5 ?k6 ?k7 ?k8 ?k9 ?k10 ?k11 ?k12 ?k13 ?k14 ?_; (case k1 => k_asm); (case k2 => k_asm); (case k3 => k_asm); (case k4 => k_mem); (case k5 => assumption); (case k6 => assumption); (case k7 => assumption); (case k8 => k_mem); (case k9 => k_is); (case k10 => k_is); (case k11 => first | exact exOver_51 _ | exact exOver_70 _); (case k12 => k_is); (case k13 => assumption); (case k14 => exact rfl); k_whole))
  trivial
theorem told0_c {w : World} {mean : ExcName → Option Value} {mg mb : Str → Option Value} {news : List (Addr × Obj)} {f : Addr} {oc : Value} {od : Option Addr} {fd : FuncData} {sl : Array (Option Value)} {dp un : Nat} {gd : Option (List Code)} {cn : Str} {cs : Scope} {aa : Addr} {ccd : Value} {cl : List (Str × Addr)} {outer : List Env} {A₀ : Around} {base h₀ : Heap} {L : Addr} {m : Str → Option Value} {s : Shared} {Q E : Value → Shared → Prop}
    (hfm : (f, (⟨oc, od, .func fd, sl⟩ : Obj)) ∈ news) (hAsk : AskZ w mean mg mb f news) (XB : (hd.heap_39 w.params).In base) (TB : Top topProg LS mean mg mb base) (D0 : KtsDicts (outer.filterMap (·.frame)) h₀) (B : Below A₀ base outer h₀) (F : Fr h₀ L s.heap m) (X0 : (hd.heap_39 w.params).In h₀) (N : News h₀ L s.heap news) (T : Top topProg LS mean mg mb h₀) (hk : cs.kind = .function) (hdp : dp + 36 < recursionLimit) (hun : un + 288 < cLine)
    (hBad : ∀ (h₀' : Heap) (r : Addr) (t1 t2 t3 t4 : Tok) (h' : Heap) (tk' : Nat), KtsTurn (outer.filterMap (·.frame)) h₀ h₀' → Fr h₀' L h' m → News h₀' L h' ((r, W.listOf #[.str ("zero" : Str) t1, .str ("/" : Str) t2] 0) :: news) → AllLt r news → Below A₀ base outer h₀' → (hd.heap_39 w.params).In h₀' → Top topProg LS mean mg mb h₀' → KtsDicts (outer.filterMap (·.frame)) h₀' → Q (.ref r) { s with heap := h', toks := tk' }) :
    wpAny (model PySem.Challenge.rw_nt0161_01.row.prog w) (ktrTop dp un gd cn cs L aa ccd cl outer) (call (.ref 212) [.ref f]) Q E s := by
  revert X0; k_fill; intro X0
  refine wpAny_call ?_
  k_dflt (refine' code_T ?k1 ?k2 ?k3 ?k4 ?k5 ?kXB ?kTB ?kD ?kT0 ?kA ?kF ?kK ?k6 ?k7 ?k8 ?k9 ?kB ?_ ?c2 ?c3 ?c4 ?c5; (case kA => exact rfl); (case kF => exact rfl); (case kK => assumption); (case k2 => k_asm); (case k1 => k_asm); (case k3 => k_asm); (case k4 => k_asm); (case k5 => k_asm); (case kXB => assumption); (case kTB => assumption); (case kD => assumption); (case kT0 => exact KtsTurn.refl); (case k6 => k_is); (case k7 => k_is); (case k8 => ktr_room); (case k9 => exact BindsTo.of_eq rfl); (case kB => exact locs rfl); (case c2 => exact rfl); (case c3 => exact rfl); (case c4 => exact rfl); (case c5 => decide); k_whole; intro g' L' h' FG' F' N' B' X' T' D' l1'; (try dsimp only); (try k_fold))
  k_steps
  all_goals (refine' hBad _ _ _ _ 0 0 _ _ ?kzT ?kzF (cb_dropL ?kzN ?kzS) ?kzA ?kzB ?kzX ?kzP ?kzD
             case kzF => with_reducible assumption
             case kzN => with_reducible assumption
             case kzT => assumption
             case kzS => (intro kp kq; (repeat (first | exact kq | apply List.Mem.tail)))
             case kzA => first | tbn_find | assumption
             case kzB => assumption
             case kzX => assumption
             case kzP => assumption
             case kzD => assumption)
end C16

section C17
open PySem PySem.W PyProof.Rows PySem.Spec PySem.Calls
set_option maxHeartbeats 8000000
/-- what both roads come to: the pair, or the refusal -/
def DueOf (o ex pl : Int) (ob : Obj) : Prop := ob.cls = .type "list" ∧
  ((-65536 ≤ pl ∧ pl ≤ 65536 ∧ ∃ t1 t2 n, ob.data = .seq #[.int o t1, .int ex t2] n) ∨
   ((pl < -65536 ∨ 65536 < pl) ∧ ∃ t1 t2 t3 t4 n, ob.data = .seq #[.str ("range" : Str) t1, .str ("inexact" : Str) t2, .int 0 t3, .int pl t4] n))
section
variable {prog : Program} {w : World} {A : Around} {E Q : Value → Shared → Prop} {s : Shared} {h₀ : Heap} {L a b : Addr} {news : List (Addr × Obj)} {oa ob : Obj} {o ex pl : Int}
theorem cmp_neD (N : News h₀ L s.heap news) (ha : (a, oa) ∈ news) (da : DueOf o ex pl oa) (hb : (b, ob) ∈ news) (db : DueOf o ex pl ob) (hu : A.units + 64 < cLine) (h : Q (.bool false) s) : wpAny (model prog w) A (compareOp .NotEq (.ref a) (.ref b)) Q E s := by
  obtain ⟨ca, ⟨l1, l2, t1, t2, n, ea⟩ | ⟨l, t1, t2, t3, t4, n, ea⟩⟩ := da <;> obtain ⟨cb, ⟨m1, m2, u1, u2, k, eb⟩ | ⟨m, u1, u2, u3, u4, k, eb⟩⟩ := db
  · exact cmp_ne2 N ha ca ea hb cb eb hu h
  · exact absurd m (by omega)
  · exact absurd l (by omega)
  · exact cmp_ne4 N ha ca ea hb cb eb hu h
theorem cmp_eqD (N : News h₀ L s.heap news) (ha : (a, oa) ∈ news) (da : DueOf o ex pl oa) (hb : (b, ob) ∈ news) (db : DueOf o ex pl ob) (hu : A.units + 64 < cLine) (h : Q (.bool true) s) : wpAny (model prog w) A (compareOp .Eq (.ref a) (.ref b)) Q E s := by
  obtain ⟨ca, ⟨l1, l2, t1, t2, n, ea⟩ | ⟨l, t1, t2, t3, t4, n, ea⟩⟩ := da <;> obtain ⟨cb, ⟨m1, m2, u1, u2, k, eb⟩ | ⟨m, u1, u2, u3, u4, k, eb⟩⟩ := db
  · exact cmp_eq2 N ha ca ea hb cb eb hu h
  · exact absurd m (by omega)
  · exact absurd l (by omega)
  · exact cmp_eq4 N ha ca ea hb cb eb hu h
end
theorem told_D {w : World} {mean : ExcName → Option Value} {mg mb : Str → Option Value} {news : List (Addr × Obj)} {f : Addr} {oc : Value} {od : Option Addr} {fd : FuncData} {sl : Array (Option Value)} {bits o ex pl : Int} {dp un : Nat} {gd : Option (List Code)} {cn : Str} {cs : Scope} {aa : Addr} {ccd : Value} {cl : List (Str × Addr)} {outer : List Env} {A₀ : Around} {base h₀ : Heap} {L : Addr} {m : Str → Option Value} {s : Shared} {Q E : Value → Shared → Prop}
    (eP : EdgeP bits o ex pl) (hfm : (f, (⟨oc, od, .func fd, sl⟩ : Obj)) ∈ news) (hAsk : AskC w mean mg mb f news o ex pl) (XB : (hd.heap_39 w.params).In base) (TB : Top topProg LS mean mg mb base) (D0 : KtsDicts (outer.filterMap (·.frame)) h₀) (B : Below A₀ base outer h₀) (F : Fr h₀ L s.heap m) (X0 : (hd.heap_39 w.params).In h₀) (N : News h₀ L s.heap news) (T : Top topProg LS mean mg mb h₀) (hk : cs.kind = .function) (hdp : dp + 36 < recursionLimit) (hun : un + 288 < cLine)
    (hEnd : ∀ (h₀' : Heap) (r : Addr) (ob : Obj) (h' : Heap) (tk' : Nat), DueOf o ex pl ob → KtsTurn (outer.filterMap (·.frame)) h₀ h₀' → Fr h₀' L h' m → News h₀' L h' ((r, ob) :: news) → AllLt r news → Below A₀ base outer h₀' → (hd.heap_39 w.params).In h₀' → Top topProg LS mean mg mb h₀' → KtsDicts (outer.filterMap (·.frame)) h₀' → Q (.ref r) { s with heap := h', toks := tk' }) :
    wpAny (model PySem.Challenge.rw_nt0161_01.row.prog w) (ktrTop dp un gd cn cs L aa ccd cl outer) (call (.ref 212) [.ref f]) Q E s :=
  told_c hfm hAsk XB TB D0 B F X0 N T hk hdp hun
    (fun l1 l2 h₀' r t1 t2 _ _ h' tk' kT kF kN kA kB kX kP kD => hEnd h₀' r _ h' tk' ⟨rfl, Or.inl ⟨l1, l2, t1, t2, _, rfl⟩⟩ kT kF kN kA kB kX kP kD)
    (fun l h₀' r t1 t2 t3 t4 h' tk' kT kF kN kA kB kX kP kD => hEnd h₀' r _ h' tk' ⟨rfl, Or.inr ⟨l, t1, t2, t3, t4, _, rfl⟩⟩ kT kF kN kA kB kX kP kD)
theorem drop_tup {h₀ h : Heap} {L D : Addr} {x : Data} {rest : List (Addr × Obj)} (N : News h₀ L h ((D, ({ cls := .type "tuple", data := x } : Obj)) :: rest)) : News h₀ L h rest := news_sub N fun _ hq => .tail _ hq
theorem drop_told {h₀ h : Heap} {L r f c' : Addr} {ob : Obj} {name qual : Str} {params : Arguments} {body : Expr} {scope : Scope} {clos : List (Str × Addr)} {md ctv : Value} {rest : List (Addr × Obj)} (N : News h₀ L h ((r, ob) :: (f, kla_obj name qual params body scope clos md c' ctv) :: rest)) : News h₀ L h rest := news_sub N fun _ hq => .tail _ (.tail _ hq)
theorem norm_add {M : Model} {A : Around} {α : Type} {t : Sem α} {Q : α → Shared → Prop} {E : Value → Shared → Prop} {h : Heap} {g : Array GenState} {d : Drawn} {tk k : Nat} {os : OsState} (H : ∀ tk' : Nat, wpAny M A t Q E ⟨h, g, d, tk', os⟩) : wpAny M A t Q E ⟨h, g, d, tk + k, os⟩ := H _
theorem ask_gen {w : World} {mean : ExcName → Option Value} {mg mb : Str → Option Value} {f : Addr} {big : List (Addr × Obj)} {o ex pl : Int} (H : ∀ nn, (∀ p ∈ big, p ∈ nn) → AskC w mean mg mb f nn o ex pl) : AskC w mean mg mb f big o ex pl := H big fun _ h => h
theorem dueP {o ex pl : Int} {t1 t2 : Tok} {n : Nat} (l1 : -65536 ≤ pl) (l2 : pl ≤ 65536) : DueOf o ex pl (W.listOf #[.int o t1, .int ex t2] n) := ⟨rfl, Or.inl ⟨l1, l2, t1, t2, n, rfl⟩⟩
theorem dueB {o ex pl : Int} {t1 t2 t3 t4 : Tok} {n : Nat} (l : pl < -65536 ∨ 65536 < pl) : DueOf o ex pl (W.listOf #[.str ("range" : Str) t1, .str ("inexact" : Str) t2, .int 0 t3, .int pl t4] n) := ⟨rfl, Or.inr ⟨l, t1, t2, t3, t4, n, rfl⟩⟩
theorem say_C17 : True := by
  k_with_none
  w_top off
  k_with "ite" => (k_here; first
  | (refine ite_neg (by (try simp only [b2i, decide_eq_true_eq, Bool.not_eq_true, Bool.and_eq_true, Bool.or_eq_true, decide_eq_false_iff_not, beq_iff_eq, bne_iff_ne, ne_eq, Int.fmod_one, not_true_eq_false, not_false_eq_true, Bool.false_eq_true, Int.reduceToNat, Int.reduceSub, Int.reducePow, Int.reduceMul]); (first | done | omega)) ?_)
  | (refine ite_pos (by (try simp only [b2i, decide_eq_true_eq, Bool.not_eq_true, Bool.and_eq_true, Bool.or_eq_true, decide_eq_false_iff_not, beq_iff_eq, bne_iff_ne, ne_eq, Int.fmod_one, not_true_eq_false, not_false_eq_true, Bool.false_eq_true, Int.reduceToNat, Int.reduceSub, Int.reducePow, Int.reduceMul]); (first | done | omega)) ?_))
  k_with "leaving ref" => (k_here; (with_reducible rename FlyD _ _ _ _ _ _ _ _ => fdX); k_dflt (refine' leave_onD ?hf ?K ?F ?R ?U ?_; (case R => exact fdX); (case hf => exact rfl); (case K => k_asm); (case F => k_asm); (case U => k_asm); (try clear fdX); k_whole; intro h' R' U'))
  trivial
theorem due_D {w : World} {mean : ExcName → Option Value} {mg mb : Str → Option Value} {news : List (Addr × Obj)} {o ex pl : Int} {k1 k2 k3 : Tok} {dp un : Nat} {gd : Option (List Code)} {cn : Str} {cs : Scope} {aa : Addr} {ccd : Value} {cl : List (Str × Addr)} {outer : List Env} {A₀ : Around} {base h₀ : Heap} {L : Addr} {m : Str → Option Value} {s : Shared} {Q E : Value → Shared → Prop}
    (B : Below A₀ base outer h₀) (F : Fr h₀ L s.heap m) (X0 : (hd.heap_39 w.params).In h₀) (N : News h₀ L s.heap news) (T : Top topProg LS mean mg mb h₀) (hk : cs.kind = .function) (hdp : dp + 12 < recursionLimit) (hun : un + 96 < cLine)
    (hEnd : ∀ (r : Addr) (ob : Obj) (h' : Heap) (tk' : Nat), DueOf o ex pl ob → Fr h₀ L h' m → News h₀ L h' ((r, ob) :: news) → AllLt r news → Q (.ref r) { s with heap := h', toks := tk' }) :
    wpAny (model PySem.Challenge.rw_nt0161_01.row.prog w) (ktrTop dp un gd cn cs L aa ccd cl outer) (call (.ref 219) [.int o k1, .int ex k2, .int pl k3]) Q E s := by
  revert X0; k_fill; intro X0
  refine wpAny_call ?_
  k_dflt cell_enter
  k_steps
  all_goals
    (refine' hEnd _ _ _ _ ?kzD ?kzF (cb_dropL ?kzN ?kzS) ?kzA
     case kzF => with_reducible assumption
     case kzN => with_reducible assumption
     case kzS => (intro kp kq; (repeat (first | exact kq | apply List.Mem.tail)))
     case kzA => first | tbn_find | assumption | exact allLt_of (by assumption)
     case kzD => first | exact dueP (by omega) (by omega) | exact dueB (by omega))
end C17

section C21
open PySem PySem.W PyProof.Rows PySem.Spec PySem.Calls
set_option maxHeartbeats 8000000
theorem five_cells {cm : Str → Option Value} {n₁ n₂ n₃ n₄ n₅ : Str} {c₁ c₂ c₃ c₄ c₅ : Addr} {cells : List (Addr × Obj)} (x : CellsAre cm [(n₁, c₁), (n₂, c₂), (n₃, c₃), (n₄, c₄), (n₅, c₅)] cells) :
    ∃ o₁ o₂ o₃ o₄ o₅, cells = [(c₁, o₁), (c₂, o₂), (c₃, o₃), (c₄, o₄), (c₅, o₅)] ∧ o₁.data = .cell (cm n₁) ∧ o₂.data = .cell (cm n₂) ∧ o₃.data = .cell (cm n₃) ∧ o₄.data = .cell (cm n₄) ∧ o₅.data = .cell (cm n₅) := by
  cases x with | cons h r => obtain ⟨o₂, o₃, o₄, o₅, rfl, h₂, h₃, h₄, h₅⟩ := r.four; exact ⟨_, o₂, o₃, o₄, o₅, rfl, h, h₂, h₃, h₄, h₅⟩
local macro_rules | `(tactic| k_all) => `(tactic| assumption)
theorem say_C21 : True := by
  k_with_none
  w_top off
  k_with "ite" => (k_here; first
  | (refine ite_neg (by (try simp only [b2i, decide_eq_true_eq, Bool.not_eq_true, Bool.and_eq_true, Bool.or_eq_true, decide_eq_false_iff_not, beq_iff_eq, bne_iff_ne, ne_eq, Int.fmod_one, not_true_eq_false, not_false_eq_true, Bool.false_eq_true, Int.reduceToNat, Int.reduceSub, Int.reducePow, Int.reduceMul]); (first | done | omega)) ?_)
  | (refine ite_pos (by (try simp only [b2i, decide_eq_true_eq, Bool.not_eq_true, Bool.and_eq_true, Bool.or_eq_true, decide_eq_false_iff_not, beq_iff_eq, bne_iff_ne, ne_eq, Int.fmod_one, not_true_eq_false, not_false_eq_true, Bool.false_eq_true, Int.reduceToNat, Int.reduceSub, Int.reducePow, Int.reduceMul]); (first | done | omega)) ?_))
  k_with "leaving ref" => (k_here; (with_reducible rename FlyD _ _ _ _ _ _ _ _ => fdX); k_dflt (refine' leave_onD ?hf ?K ?F ?R ?U ?_; (case R => exact fdX); (case hf => exact rfl); (case K => k_asm); (case F => k_asm); (case U => k_asm); (try clear fdX); k_whole; intro h' R' U'))
  k_with "binaryOp Pow int int" => (k_here; (with_reducible refine pow_edge (by assumption) (by assumption) ?_); intro kP1 kP2 kP3 kP4)
  k_with "binaryOp Mod int int" => (k_here; (with_reducible refine mod_edge ?kz1 ?_); (case kz1 => first | decide | omega); intro kP1 kP2 kP3)
  k_with "binaryOp FloorDiv int int" => (k_here; (with_reducible refine fdiv_edge ?kz1 ?kz2 ?_); (case kz1 => first | decide | omega); (case kz2 => first | decide | omega); intro kP1)
  k_with "binaryOp Mult int int" => (k_here; (with_reducible refine mul_sgL ?kz1 ?kz2 ?_); (case kz1 => assumption); (case kz2 => assumption); intro kP1)
  k_with "binaryOp Mult int int" => (k_here; (with_reducible refine mul_sgR ?kz1 ?kz2 ?_); (case kz1 => assumption); (case kz2 => assumption); intro kP1 kP2)
  k_with "callWith ref" => (k_here; (with_reducible show wpAny _ _ (callWith _ (Value.ref 212) _ _ _) _ _ _); k_dflt (first
  | (refine' callWith_K ?k1 ?k2 ?_; (case k1 => k_asm); (case k2 => k_is); k_whole)
  | (refine' callWith_K0 ?k1 ?k2 ?_; (case k1 => k_in); (case k2 => k_is); k_whole)))
  k_with "callWith ref" => (k_here; (with_reducible show wpAny _ _ (callWith _ (Value.ref 219) _ _ _) _ _ _); k_dflt (first
  | (refine' callWith_K ?k1 ?k2 ?_; (case k1 => k_asm); (case k2 => k_is); k_whole)
  | (refine' callWith_K0 ?k1 ?k2 ?_; (case k1 => k_in); (case k2 => k_is); k_whole)))
  k_with "callWith ref" => (k_here; (with_reducible show wpAny _ _ (callWith _ (Value.ref 198) _ _ _) _ _ _); k_dflt (first
  | (refine' callWith_K ?k1 ?k2 ?_; (case k1 => k_asm); (case k2 => k_is); k_whole)
  | (refine' callWith_K0 ?k1 ?k2 ?_; (case k1 => k_in); (case k2 => k_is); k_whole)))
  k_with "callWith ref" => (k_here; (with_reducible show wpAny _ _ (callWith _ (Value.ref 205) _ _ _) _ _ _); k_dflt (first
  | (refine' callWith_K ?k1 ?k2 ?_; (case k1 => k_asm); (case k2 => k_is); k_whole)
  | (refine' callWith_K0 ?k1 ?k2 ?_; (case k1 => k_in); (case k2 => k_is); k_whole)))
  k_with "callWith ref" => (k_here; (with_reducible show wpAny _ _ (callWith _ (Value.ref 184) _ _ _) _ _ _); k_dflt (first
  | (refine' callWith_K ?k1 ?k2 ?_; (case k1 => k_asm); (case k2 => k_is); k_whole)
  | (refine' callWith_K0 ?k1 ?k2 ?_; (case k1 => k_in); (case k2 => k_is); k_whole)))
  k_with "callWith ref" => (k_here; (with_reducible show wpAny _ _ (callWith _ (Value.ref 191) _ _ _) _ _ _); k_dflt (first
  | (refine' callWith_K ?k1 ?k2 ?_; (case k1 => k_asm); (case k2 => k_is); k_whole)
  | (refine' callWith_K0 ?k1 ?k2 ?_; (case k1 => k_in); (case k2 => k_is); k_whole)))
  k_with "callWith ref" => (k_here; (with_reducible show wpAny _ _ (callWith _ (Value.ref 89) _ _ _) _ _ _); k_dflt (first
  | (refine' callWith_K ?k1 ?k2 ?_; (case k1 => k_asm); (case k2 => k_is); k_whole)
  | (refine' callWith_K0 ?k1 ?k2 ?_; (case k1 => k_in); (case k2 => k_is); k_whole)))
  k_with "execs cons" => (k_here; (try ((with_reducible rename News _ _ _ _ => nN9); first | replace nN9 := drop_tup nN9 | replace nN9 := drop_told nN9)); (try dsimp only); (try (with_reducible refine' norm_add ?_; intro tk')); refine wpAny_execs_cons ?_)
  k_with "call ref" => (k_here; (with_reducible show wpAny _ _ (call (Value.ref 198) _ _) _ _ _); (with_reducible rename EdgeP _ _ _ _ => eP9); k_dflt (refine' mul_c ?hb ?D ?hp ?hx ?hdx ?hy ?hdy ?B ?F ?X ?N ?T ?hk ?hdp ?hun ?_ ?_; (case B => k_asm); (case F => k_asm); (case X => k_asm); (case N => k_asm); (case T => k_asm); (case hx => k_mem); (case hdx => k_mem); (case hy => k_mem); (case hdy => k_mem); (case hb => (constructor <;> omega)); (case D => exact dec_any eP9.1 eP9.2 (by omega) (by omega)); (case hp => exact hp_any eP9.1 (by omega)); (case hk => first | exact rfl | assumption); (case hdp => ktr_room); (case hun => ktr_units); (intro b1' b2' x' d' k1' k2' t1' t2' h' tk' F' N' l1' l2'); (try simp only [AllLt, and_true] at l1'); rotate_left; (intro b1' g' e' d' li' es' n' t1' t2' t3' h' tk' FG' R' gL' U'); rotate_left; (all_goals (try k_fold))))
  k_with "call ref" => (k_here; (with_reducible show wpAny _ _ (call (Value.ref 205) _ _) _ _ _); (with_reducible rename EdgeP _ _ _ _ => eP9); k_dflt (refine' div_c ?hb ?O ?hex ?hpl ?hx ?hdx ?hy ?hdy ?B ?F ?X ?N ?T ?hk ?hdp ?hun ?_ ?_; (case B => k_asm); (case F => k_asm); (case X => k_asm); (case N => k_asm); (case T => k_asm); (case hx => k_mem); (case hdx => k_mem); (case hy => k_mem); (case hdy => k_mem); (case hb => first | exact rfl | omega); (case O => exact eP9.1); (case hpl => exact eP9.2); (case hex => omega); (case hk => first | exact rfl | assumption); (case hdp => ktr_room); (case hun => ktr_units); (intro b1' b2' x' d' k1' k2' t1' t2' h' tk' F' N' l1' l2'); (try simp only [AllLt, and_true] at l1'); rotate_left; (intro b1' g' e' d' li' es' n' t1' t2' t3' h' tk' FG' R' gL' U'); rotate_left; (all_goals (try k_fold))))
  k_with "call ref" => (k_here; (with_reducible show wpAny _ _ (call (Value.ref 184) _ _) _ _ _); (with_reducible rename EdgeP _ _ _ _ => eP9); k_dflt (refine' add_c ?hb ?he ?O ?ho ?hex ?hpl ?hx ?hdx ?hy ?hdy ?B ?F ?X ?N ?T ?hk ?hdp ?hun ?_ ?_; (case B => k_asm); (case F => k_asm); (case X => k_asm); (case N => k_asm); (case T => k_asm); (case hx => k_mem); (case hdx => k_mem); (case hy => k_mem); (case hdy => k_mem); (case hb => first | exact rfl | omega); (case he => first | exact rfl | omega); (case O => exact eP9.1); (case ho => exact rfl); (case hex => exact ex_of eP9 (by omega)); (case hpl => exact pl_of eP9 (by omega)); (case hk => first | exact rfl | assumption); (case hdp => ktr_room); (case hun => ktr_units); (intro b1' b2' x' d' k1' k2' t1' t2' h' tk' F' N' l1' l2'); (try simp only [AllLt, and_true] at l1'); rotate_left; (intro b1' g' e' d' li' es' n' t1' t2' t3' h' tk' FG' R' gL' U'); rotate_left; (all_goals (try k_fold))))
  k_with "call ref" => (k_here; (with_reducible show wpAny _ _ (call (Value.ref 191) _ _) _ _ _); (with_reducible rename EdgeP _ _ _ _ => eP9); k_dflt (refine' sub_c ?hb ?he ?O ?ho ?hex ?hpl ?hx ?hdx ?hy ?hdy ?B ?F ?X ?N ?T ?hk ?hdp ?hun ?_ ?_; (case B => k_asm); (case F => k_asm); (case X => k_asm); (case N => k_asm); (case T => k_asm); (case hx => k_mem); (case hdx => k_mem); (case hy => k_mem); (case hdy => k_mem); (case hb => first | exact rfl | omega); (case he => first | exact rfl | omega); (case O => exact eP9.1); (case ho => exact rfl); (case hex => exact ex_of eP9 (by omega)); (case hpl => exact pl_of eP9 (by omega)); (case hk => first | exact rfl | assumption); (case hdp => ktr_room); (case hun => ktr_units); (intro b1' b2' x' d' k1' k2' t1' t2' h' tk' F' N' l1' l2'); (try simp only [AllLt, and_true] at l1'); rotate_left; (intro b1' g' e' d' li' es' n' t1' t2' t3' h' tk' FG' R' gL' U'); rotate_left; (all_goals (try k_fold))))
  k_with "call ref" => (k_here; (with_reducible show wpAny _ _ (call (Value.ref 89) [Value.int _ _, Value.int _ _] _) _ _ _); k_dflt (refine' real_c ?B ?F ?X ?N ?T ?hk ?hdp ?hun ?_; (case B => k_asm); (case F => k_asm); (case X => k_asm); (case N => k_asm); (case T => k_asm); (case hk => first | exact rfl | assumption); (case hdp => ktr_room); (case hun => ktr_units); (intro x' d' k1' k2' t1' t2' h' tk' F' N' l1' l2'); (try simp only [AllLt, and_true] at l1'); (try k_sweep); (try k_fold)))
  k_with "compareOp NotEq ref ref" => (k_here; (with_reducible show wpAny _ _ (compareOp CmpOp.NotEq (Value.ref _) (Value.ref _)) _ _ _); k_dflt (refine' cmp_neD ?N ?ha ?da ?hb ?db ?hu ?_; (case N => k_asm); (case ha => k_mem); (case hb => k_mem); (case da => assumption); (case db => assumption); (case hu => ke_room); k_whole))
  k_with "compareOp Eq ref ref" => (k_here; (with_reducible show wpAny _ _ (compareOp CmpOp.Eq (Value.ref _) (Value.ref _)) _ _ _); k_dflt (refine' cmp_eqD ?N ?ha ?da ?hb ?db ?hu ?_; (case N => k_asm); (case ha => k_mem); (case hb => k_mem); (case da => assumption); (case db => assumption); (case hu => ke_room); k_whole))
  k_with "eval Lambda" => (k_here; k_dflt (refine' kla_eval ?d0 ?_; (case d0 => exact rfl)); k_dflt (refine' lam_any (P := 221) ?F ?N ?T ?C ?cd ?U ?I ?sub ?cl ?hx ?hxd ?_; (case F => k_asm); (case N => k_asm); (case T => k_asm); (case cd => exact rfl); (case C => kn_code); (case U => k_updF); (case I => assumption); (case sub => (repeat ((with_reducible refine' sub_cons ?_ ?_); (next => k_mem))); (intro kp kq; (repeat (first | exact kq | apply List.Mem.tail)))); (case hx => k_mem); (case hxd => assumption); (case cl => exact rfl); k_whole); intro f' c' oc' vs' t' ct' h' tk' ps' F' N' d1' d2' l1 l2 n1 n2 I'; (try dsimp only at N'); (try k_lt l1); (try k_lt2 l2))
  k_with "call ref" => (k_here; (with_reducible show wpAny _ _ (call (Value.ref 219) _ _) _ _ _); (with_reducible rename EdgeP _ _ _ _ => eP9); k_dflt (refine' due_D ?B ?F ?X ?N ?T ?hk ?hdp ?hun ?_; (case B => k_asm); (case F => k_asm); (case X => k_asm); (case N => k_asm); (case T => k_asm); (case hk => first | exact rfl | assumption); (case hdp => ktr_room); (case hun => ktr_units); (intro r' ob' h' tk' dO' kF kN kA; (try simp only [AllLt, and_true] at kA); (try k_fold))))
  k_with "call ref" => (k_here; (with_reducible show wpAny _ _ (call (Value.ref 219) _ _) _ _ _); (fail_if_success (with_reducible rename EdgeP _ _ _ _ => eP9)); k_dflt (refine' due_note ?a1 ?a2 ?a3 ?a4 ?a5 ?a6 ?a7 ?_; (case a1 => assumption); (case a2 => assumption); (case a5 => assumption); (case a3 => assumption); (case a4 => assumption); (case a6 => assumption); (case a7 => assumption); intro kE1 kE2 kE3 kE4 kE5))
  k_with "call ref" => (k_here; (with_reducible show wpAny _ _ (call (Value.ref 212) _ _) _ _ _); (with_reducible rename EdgeP _ _ _ _ => eP9); k_dflt (refine' told_D eP9 ?hfm ?_ ?XB ?TB ?D0 ?B ?F ?X ?N ?T ?hk ?hdp ?hun ?_; (case B => k_asm); (case F => k_asm); (case X => k_asm); (case N => k_asm); (case T => k_asm); (case hfm => k_mem); (case XB => assumption); (case TB => assumption); (case D0 => assumption); (case hk => first | exact rfl | assumption); (case hdp => ktr_room); (case hun => ktr_units); (focus ((refine ask_gen ?_; intro nn kS; (simp only [List.forall_mem_cons] at kS); (repeat (obtain ⟨kk, kS⟩ := kS)); as_aux_lemma => (intro dp9 un9 gd9 cn9 cs9 aa9 ccd9 cl9 outer9 A9 base9 h9 L9 m9 s9 Q9 E9 B9 F9 X9 N9 T9 hk9 hdp9 hun9 hOk9 hBad9; refine wpAny_call ?_; k_dflt (refine' kla_code ?k1 ?k2 ?k3 ?k4 ?k5 ?kA ?kF ?kK ?k6 ?k7 ?k8 ?k9 ?kB ?_ ?c2 ?c3 ?c4 ?c5; (case kA => exact rfl); (case kF => exact rfl); (case kK => assumption); (case k1 => k_asm); (case k2 => k_asm); (case k3 => k_asm); (case k4 => k_asm); (case k5 => k_asm); (case k6 => k_mem); (case k7 => exact codeRec_news (by k_asm) (by k_mem) (by assumption) (by assumption)); (case k8 => k_room); (case k9 => exact rfl); (case c5 => decide); (case kB => exact locs rfl); (case c2 => exact rfl); (case c3 => exact rfl); (case c4 => exact rfl); k_whole; intro g' L' h' FG' F' N' B' X' T'; (try dsimp only); (try k_lift B'); (try k_fold)); k_steps; all_goals first | (refine' okc_use (hOk9 (by assumption) (by assumption)) ?kzF ?kzN ?kzS ?kzA ?kzl; (case kzF => with_reducible assumption); (case kzN => with_reducible assumption); (case kzS => (intro kp kq; (repeat (first | exact kq | apply List.Mem.tail)))); (case kzA => first | assumption | tbn_find | exact allLt_of (by assumption)); (case kzl => first | assumption | omega)) | (refine' badc_use (hBad9 (by assumption)) ?kzF ?kzR ?kzS ?kzg ?kzU; (case kzF => with_reducible assumption); (case kzR => with_reducible assumption); (case kzS => (intro kp kq; (repeat (first | exact kq | apply List.Mem.tail)))); (case kzg => first | assumption | k_get); (case kzU => with_reducible assumption)) | (exfalso; omega))))); (intro h₀' r ob' h' tk' dO' kT kF kN kA kB kX kP kD; (with_reducible show wpAny _ _ _ _ _ _); (try (replace kT := KtsTurn.trans (by assumption) kT)); (try simp only [AllLt, and_true] at kA); (try k_fold))))
  trivial
theorem edge_c {w : World} {mean : ExcName → Option Value} {mg mb : Str → Option Value} {news : List (Addr × Obj)} {bits code : Int} {tb tc : Tok} {ps : Array Value} {dp un : Nat} {gd : Option (List Code)} {cn : Str} {cs : Scope} {aa : Addr} {ccd : Value} {cl : List (Str × Addr)} {outer : List Env} {A₀ : Around} {base h₀ : Heap} {L : Addr} {m : Str → Option Value} {s : Shared} {Q E : Value → Shared → Prop}
    (h3 : 3 ≤ bits) (h6 : bits ≤ 6) (off : ∀ p ∈ news, p.1 ≠ 221) (hC : CodeHd base 225 221) (hI : TabI ("_law_is_edge_right.<locals>.<lambda>" : Str) 221 ps news) (XB : (hd.heap_39 w.params).In base) (TB : Top topProg LS mean mg mb base) (D0 : KtsDicts (outer.filterMap (·.frame)) h₀) (B : Below A₀ base outer h₀) (F : Fr h₀ L s.heap m) (X0 : (hd.heap_39 w.params).In h₀) (N : News h₀ L s.heap ((221, tabObj ps) :: news)) (T : Top topProg LS mean mg mb h₀) (hk : cs.kind = .function) (hdp : dp + 60 < recursionLimit) (hun : un + 480 < cLine)
    (hEnd : ∀ h₀' ps' codes h' tk', KtsTurn (outer.filterMap (·.frame)) h₀ h₀' → Fr h₀' L h' m → News h₀' L h' ((221, tabObj ps') :: codes) → TabI ("_law_is_edge_right.<locals>.<lambda>" : Str) 221 ps' codes → (∀ p ∈ news, p ∈ codes) → (∀ p ∈ codes, p.1 ≠ 221) → Below A₀ base outer h₀' → (hd.heap_39 w.params).In h₀' → Top topProg LS mean mg mb h₀' → KtsDicts (outer.filterMap (·.frame)) h₀' → Q (.bool true) { s with heap := h', toks := tk' }) :
    wpAny (model PySem.Challenge.rw_nt0161_01.row.prog w) (ktrTop dp un gd cn cs L aa ccd cl outer) (call (.ref 226) [.int bits tb, .int code tc]) Q E s := by
  revert X0; k_fill; intro X0
  refine wpAny_call ?_
  k_dflt (refine' code_TC ?k1 ?k2 ?k3 ?k4 ?k5 ?kXB ?kTB ?kD ?kT0 ?kA ?kF ?kK ?k6 ?k7 ?k8 ?k9 ?kB ?kN ?_ ?c2 ?c3 ?c4; (case kA => exact rfl); (case kF => exact rfl); (case kK => assumption); (case k2 => k_asm); (case k1 => k_asm); (case k3 => k_asm); (case k4 => k_asm); (case k5 => k_asm); (case kXB => assumption); (case kTB => assumption); (case kD => assumption); (case kT0 => exact KtsTurn.refl); (case k6 => k_is); (case k7 => k_is); (case k8 => ktr_room); (case k9 => exact BindsTo.of_eq rfl); (case kB => exact rfl); (case kN => decide +kernel); (case c2 => exact rfl); (case c3 => exact rfl); (case c4 => exact rfl); k_whole; intro g' L' h' tk' cells' FG' F' N' Y' B' X' T' D' l1'; (try k_lt l1'); (obtain ⟨o1', o2', o3', o4', o5', hE', d1', d2', d3', d4', d5'⟩ := five_cells Y'); subst hE'; clear Y'; (simp only [List.cons_append, List.nil_append] at N'); (try dsimp only); (try k_lift B'); (try k_fold))
  k_steps
  all_goals (refine' hEnd _ _ _ _ _ ?_ ?_ ?_ ?_ ?_ ?_ ?_ ?_ ?_ ?_; rotate_left; rotate_left; rotate_left; rotate_left; (next => with_reducible assumption); rotate_left; (next => assumption); (next => (intro kp kq; (repeat (first | exact kq | apply List.Mem.tail)))); (next => (repeat ((with_reducible refine' off_cons ?_ ?_); (next => assumption))); exact off); (next => assumption); (next => assumption); (next => assumption); (next => assumption); (next => assumption); (next => exact news_sub (by with_reducible assumption) (by (repeat ((with_reducible refine' sub_cons ?_ ?_); (next => k_mem))); (intro kp kq; (repeat (first | exact kq | apply List.Mem.tail))))))
end C21

section C30
open PySem PySem.W PyProof.Rows PySem.Spec PySem.Calls
set_option maxHeartbeats 8000000
theorem fm3 (a : Int) : 3 ≤ 3 + a.fmod 4 := by
  have := Int.fmod_nonneg_of_pos a (show (0:Int) < 4 by decide)
  omega
theorem fm6 (a : Int) : 3 + a.fmod 4 ≤ 6 := by
  have := Int.fmod_lt_of_pos a (show (0:Int) < 4 by decide)
  omega
theorem news_pick {h₀ h : Heap} {L : Addr} {a b c d e f p q : Addr × Obj} (N : News h₀ L h [a, b, c, d, e, f, p, q]) : News h₀ L h (p :: [a, e, f, q]) := news_sub N fun x hx => by
  simp only [List.mem_cons, List.not_mem_nil, or_false] at hx ⊢
  rcases hx with rfl | rfl | rfl | rfl | rfl <;> simp
theorem news_base {h₀ h : Heap} {L : Addr} {q : Addr × Obj} {codes base₀ : List (Addr × Obj)} (N : News h₀ L h (q :: codes)) (k : ∀ p ∈ base₀, p ∈ codes) : News h₀ L h (q :: base₀) := news_sub N fun x hx => by
  rcases List.mem_cons.mp hx with rfl | hx
  · exact .head _
  · exact .tail _ (k _ hx)
theorem badz_use {base h₀ g₂ : Heap} {L e de li : Addr} {m : Str → Option Value} {l : List Env} {news mid : List (Addr × Obj)} {s : Shared} {E : Value → Shared → Prop} (k : BadZ base h₀ L m l news s E) {es : List DictEntry} {n : Nat} {t1 : Tok} {h' : Heap} {tk' : Nat}
    (F : Fr h₀ L g₂ m) (R : FlyD base g₂ l e 70 de ((de, dictOf es n) :: (li, W.listOf #[.str ("/" : Str) t1] 0) :: mid) h') (sub : ∀ p ∈ news, p ∈ mid) (g : getL ("irritants" : Str) es = some (some (.ref li))) (U : g₂.UpToSlots h') : E (.ref e) { s with heap := h', toks := tk' } :=
  k _ _ _ _ _ _ _ _ _ F (R.sub fun p hp => by
    rcases List.mem_cons.mp hp with rfl | hp
    · exact .head _
    · rcases List.mem_cons.mp hp with rfl | hp
      · exact .tail _ (.head _)
      · exact .tail _ (.tail _ (sub p hp))) g U
theorem edge_T {w : World} {mean : ExcName → Option Value} {mg mb : Str → Option Value} {news : List (Addr × Obj)} {bits code : Int} {tb tc : Tok} {ps : Array Value} {dp un : Nat} {gd : Option (List Code)} {cn : Str} {cs : Scope} {aa : Addr} {ccd : Value} {cl : List (Str × Addr)} {A₀ : Around} {base h₀ : Heap} {L : Addr} {m : Str → Option Value} {s : Shared} {Q E : Value → Shared → Prop}
    (h3 : 3 ≤ bits) (h6 : bits ≤ 6) (off : ∀ p ∈ news, p.1 ≠ 221) (hC : CodeHd base 225 221) (hI : TabI ("_law_is_edge_right.<locals>.<lambda>" : Str) 221 ps news) (XB : (hd.heap_39 w.params).In base) (TB : Top topProg LS mean mg mb base) (B : Below A₀ base [] h₀) (F : Fr h₀ L s.heap m) (X0 : (hd.heap_39 w.params).In h₀) (N : News h₀ L s.heap ((221, tabObj ps) :: news)) (T : Top topProg LS mean mg mb h₀) (hk : cs.kind = .function) (hdp : dp + 60 < recursionLimit) (hun : un + 480 < cLine)
    (hEnd : ∀ ps' codes h' tk', Fr h₀ L h' m → News h₀ L h' ((221, tabObj ps') :: codes) → TabI ("_law_is_edge_right.<locals>.<lambda>" : Str) 221 ps' codes → (∀ p ∈ news, p ∈ codes) → (∀ p ∈ codes, p.1 ≠ 221) → Q (.bool true) { s with heap := h', toks := tk' }) :
    wpAny (model PySem.Challenge.rw_nt0161_01.row.prog w) (ktrTop dp un gd cn cs L aa ccd cl []) (call (.ref 226) [.int bits tb, .int code tc]) Q E s :=
  edge_c h3 h6 off hC hI XB TB ktsDicts_nil B F X0 N T hk hdp hun fun _ ps' codes h' tk' kT kF kN kI ks ko _ _ _ _ => hEnd ps' codes h' tk' (fr_unturn kT kF) (news_unturn kT kN) kI ks ko
theorem told0_T {w : World} {mean : ExcName → Option Value} {mg mb : Str → Option Value} {news : List (Addr × Obj)} {f : Addr} {oc : Value} {od : Option Addr} {fd : FuncData} {sl : Array (Option Value)} {dp un : Nat} {gd : Option (List Code)} {cn : Str} {cs : Scope} {aa : Addr} {ccd : Value} {cl : List (Str × Addr)} {A₀ : Around} {base h₀ : Heap} {L : Addr} {m : Str → Option Value} {s : Shared} {Q E : Value → Shared → Prop}
    (hfm : (f, (⟨oc, od, .func fd, sl⟩ : Obj)) ∈ news) (hAsk : AskZ w mean mg mb f news) (XB : (hd.heap_39 w.params).In base) (TB : Top topProg LS mean mg mb base) (B : Below A₀ base [] h₀) (F : Fr h₀ L s.heap m) (X0 : (hd.heap_39 w.params).In h₀) (N : News h₀ L s.heap news) (T : Top topProg LS mean mg mb h₀) (hk : cs.kind = .function) (hdp : dp + 36 < recursionLimit) (hun : un + 288 < cLine)
    (hBad : ∀ (r : Addr) (t1 t2 : Tok) (h' : Heap) (tk' : Nat), Fr h₀ L h' m → News h₀ L h' ((r, W.listOf #[.str ("zero" : Str) t1, .str ("/" : Str) t2] 0) :: news) → AllLt r news → Q (.ref r) { s with heap := h', toks := tk' }) :
    wpAny (model PySem.Challenge.rw_nt0161_01.row.prog w) (ktrTop dp un gd cn cs L aa ccd cl []) (call (.ref 212) [.ref f]) Q E s :=
  told0_c hfm hAsk XB TB ktsDicts_nil B F X0 N T hk hdp hun fun _ r t1 t2 _ _ h' tk' kT kF kN kA _ _ _ _ => hBad r t1 t2 h' tk' (fr_unturn kT kF) (news_unturn kT kN) kA
theorem say_C30 : True := by
  k_with_none
  w_top off
  k_with "ite" => (k_here; first
  | (refine ite_neg (by (try simp only [b2i, decide_eq_true_eq, Bool.not_eq_true, Bool.and_eq_true, Bool.or_eq_true, decide_eq_false_iff_not, beq_iff_eq, bne_iff_ne, ne_eq, Int.fmod_one, not_true_eq_false, not_false_eq_true, Bool.false_eq_true, Int.reduceToNat, Int.reduceSub, Int.reducePow, Int.reduceMul]); (first | done | omega)) ?_)
  | (refine ite_pos (by (try simp only [b2i, decide_eq_true_eq, Bool.not_eq_true, Bool.and_eq_true, Bool.or_eq_true, decide_eq_false_iff_not, beq_iff_eq, bne_iff_ne, ne_eq, Int.fmod_one, not_true_eq_false, not_false_eq_true, Bool.false_eq_true, Int.reduceToNat, Int.reduceSub, Int.reducePow, Int.reduceMul]); (first | done | omega)) ?_))
  k_with "leaving ref" => (k_here; (with_reducible rename FlyD _ _ _ _ _ _ _ _ => fdX); k_dflt (refine' leave_onD ?hf ?K ?F ?R ?U ?_; (case R => exact fdX); (case hf => exact rfl); (case K => k_asm); (case F => k_asm); (case U => k_asm); (try clear fdX); k_whole; intro h' R' U'))
  k_with "callWith ref" => (k_here; (with_reducible show wpAny _ _ (callWith _ (Value.ref 226) _ _ _) _ _ _); k_dflt (first
  | (refine' callWith_K ?k1 ?k2 ?_; (case k1 => k_asm); (case k2 => k_is); k_whole)
  | (refine' callWith_K0 ?k1 ?k2 ?_; (case k1 => k_in); (case k2 => k_is); k_whole)))
  k_with "callWith ref" => (k_here; (with_reducible show wpAny _ _ (callWith _ (Value.ref 212) _ _ _) _ _ _); k_dflt (first
  | (refine' callWith_K ?k1 ?k2 ?_; (case k1 => k_asm); (case k2 => k_is); k_whole)
  | (refine' callWith_K0 ?k1 ?k2 ?_; (case k1 => k_in); (case k2 => k_is); k_whole)))
  k_with "callWith ref" => (k_here; (with_reducible show wpAny _ _ (callWith _ (Value.ref 205) _ _ _) _ _ _); k_dflt (first
  | (refine' callWith_K ?k1 ?k2 ?_; (case k1 => k_asm); (case k2 => k_is); k_whole)
  | (refine' callWith_K0 ?k1 ?k2 ?_; (case k1 => k_in); (case k2 => k_is); k_whole)))
  k_with "callWith ref" => (k_here; (with_reducible show wpAny _ _ (callWith _ (Value.ref 89) _ _ _) _ _ _); k_dflt (first
  | (refine' callWith_K ?k1 ?k2 ?_; (case k1 => k_asm); (case k2 => k_is); k_whole)
  | (refine' callWith_K0 ?k1 ?k2 ?_; (case k1 => k_in); (case k2 => k_is); k_whole)))
  k_with "compareOp Eq ref ref" => (k_here; (with_reducible show wpAny _ _ (compareOp CmpOp.Eq (Value.ref _) (Value.ref _)) _ _ _); k_dflt (first | (refine' cmp_eqz ?N ?ha ?ca ?da ?hb ?cb ?db ?hu ?_; (case N => k_asm); (case ha => k_mem); (case ca => exact rfl); (case da => exact rfl); (case hb => k_mem); (case cb => exact rfl); (case db => exact rfl); (case hu => ke_room); k_whole)))
  k_with "execs cons" => (k_here; (try ((with_reducible rename News _ _ _ _ => nN9); first | replace nN9 := drop_tup nN9 | replace nN9 := drop_told nN9)); (try dsimp only); (try (with_reducible refine' norm_add ?_; intro tk')); refine wpAny_execs_cons ?_)
  k_with "call ref" => (k_here; (with_reducible show wpAny _ _ (call (Value.ref 89) [Value.int _ _, Value.int _ _] _) _ _ _); k_dflt (refine' real_c ?B ?F ?X ?N ?T ?hk ?hdp ?hun ?_; (case B => k_asm); (case F => k_asm); (case X => k_asm); (case N => k_asm); (case T => k_asm); (case hk => first | exact rfl | assumption); (case hdp => ktr_room); (case hun => ktr_units); (intro x' d' k1' k2' t1' t2' h' tk' F' N' l1' l2'); (try simp only [AllLt, and_true] at l1'); (try k_sweep); (try k_fold)))
  k_with "call ref" => (k_here; (with_reducible show wpAny _ _ (call (Value.ref 205) _ _) _ _ _); k_dflt (refine' div0_c ?hb ?hy ?hdy ?B ?F ?X ?N ?T ?hk ?hdp ?hun ?_; (case B => k_asm); (case F => k_asm); (case X => k_asm); (case N => k_asm); (case T => k_asm); (case hy => k_mem); (case hdy => k_mem); (case hb => exact rfl); (case hk => first | exact rfl | assumption); (case hdp => ktr_room); (case hun => ktr_units); (intro g' e' d' li' es' n' t1' h' tk' FG' R' gL' U')))
  k_with "call ref" => (k_here; (with_reducible show wpAny _ _ (call (Value.ref 226) _ _) _ _ _); k_dflt (refine' edge_T ?h3 ?h6 ?off ?hC ?hI ?XB ?TB ?B ?F ?X ?N ?T ?hk ?hdp ?hun ?_; (case h3 => exact fm3 _); (case h6 => exact fm6 _); (case B => k_asm); (case F => k_asm); (case X => k_asm); (case N => k_asm); (case T => k_asm); (case off => assumption); (case hC => assumption); (case hI => assumption); (case XB => assumption); (case TB => assumption); (case hk => exact rfl); (case hdp => ktr_room); (case hun => ktr_units); (intro ps' codes' h' tk' kF kN kI ks ko); (try k_fold)))
  k_with "call ref" => (k_here; (with_reducible show wpAny _ _ (call (Value.ref 212) _ _) _ _ _); k_dflt (refine' told0_T ?hfm ?_ ?XB ?TB ?B ?F ?X ?N ?T ?hk ?hdp ?hun ?_; (case B => k_asm); (case F => k_asm); (case X => k_asm); (case N => k_asm); (case T => k_asm); (case hfm => k_mem); (case XB => assumption); (case TB => assumption); (case hk => exact rfl); (case hdp => ktr_room); (case hun => ktr_units); (focus ((intro dp9 un9 gd9 cn9 cs9 aa9 ccd9 cl9 outer9 A9 base9 h9 L9 m9 s9 Q9 E9 B9 F9 X9 N9 T9 hk9 hdp9 hun9 hBad9; refine wpAny_call ?_; k_dflt (refine' kla_code ?k1 ?k2 ?k3 ?k4 ?k5 ?kA ?kF ?kK ?k6 ?k7 ?k8 ?k9 ?kB ?_ ?c2 ?c3 ?c4 ?c5; (case kA => exact rfl); (case kF => exact rfl); (case kK => assumption); (case k1 => k_asm); (case k2 => k_asm); (case k3 => k_asm); (case k4 => k_asm); (case k5 => k_asm); (case k6 => k_mem); (case k7 => exact codeRec_news (by k_asm) (by k_mem) (by assumption) (by assumption)); (case k8 => k_room); (case k9 => exact rfl); (case c5 => decide); (case kB => exact locs rfl); (case c2 => exact rfl); (case c3 => exact rfl); (case c4 => exact rfl); k_whole; intro g' L' h' FG' F' N' B' X' T'; (try dsimp only); (try k_lift B'); (try k_fold));  k_steps; all_goals (refine' badz_use hBad9 ?kzF ?kzR ?kzS ?kzg ?kzU; (case kzF => with_reducible assumption); (case kzR => with_reducible assumption); (case kzS => (intro kp kq; (repeat (first | exact kq | apply List.Mem.tail)))); (case kzg => first | assumption | k_get); (case kzU => with_reducible assumption))))); (intro r' t1' t2' h' tk' kF kN kA; (try simp only [AllLt, and_true] at kA); (try k_fold))))
  trivial
theorem law_w : PySem.Challenge.rw_nt0161_01.Holds := by
  refine hd ?_
  k_go0
  all_goals try k_fold
  k_steps
  (rename Fr _ _ _ _ => lF'); (rename News _ _ _ _ => lN'); (rename IntsAre _ _ => lI')
  with_unfolding_all refine' loop_codes (P := 221) (qual := ("_law_is_edge_right.<locals>.<lambda>" : Str)) (ps₀ := #[]) ?hh ?hl lI' lF' (news_pick lN') TabI.nil ?off ?turn ?done
  case hh => exact rfl
  case hl => exact .head _
  case off => (repeat ((with_reducible refine' off_cons ?_ ?_); (next => first | omega | decide))); exact fun _ h => nomatch h
  case turn =>
    clear lF' lN'
    intro n' t' h' tk' ps' codes' Q' F' N' I' ks ko hQ
    have hb1 := ks _ (.tail _ (.tail _ (.head _)))
    try k_fold
    k_steps
    (rename Fr _ _ _ _ => lF')
    (rename News _ _ _ _ => lN')
    (rename TabI _ _ _ _ => lI')
    exact hQ _ _ _ _ _ lF' lN' lI' (by assumption) (by assumption)
  case done =>
    clear lF' lN'
    intro u' h' tk' ps' codes' F' N' ks
    replace N' := news_base N' ks
    clear ks
    try k_fold
    k_steps
end C30

end Mine

theorem PySem.Challenge.cw_nt0161_01_holds : PySem.Challenge.rw_nt0161_01.Holds := by
  exact Mine.law_w

